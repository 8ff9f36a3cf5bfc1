import Derived.Test.YtemighjbfanenaaGreatDoorPk18
set_option linter.all false
set_option maxRecDepth 100000
set_option maxHeartbeats 16000000
namespace Go.Proofs.YtemighjbfanenaaGreatDoor
open RowKit
open Oc (Bs fZ fF aP ed bu bQ rh eP cI mV eY)
open En (By)
open Go renaming bits→aX
open Go.BinOp renaming and→bh
open Go.IntKind renaming i64→aO
open Go.Proofs.Tryz renaming prog→af,underlying34→fL
open Go.World renaming cell?_of_block→eO,block_lt_of_cell?→bD
open Int renaming tdiv_eq_ediv_of_nonneg→abD,natCast_add→P1,tmod_eq_emod_of_nonneg→abC
open List renaming mem_cons_of_mem→gv,drop_zero→Hb,length_replicate→kO,getD_eq_getElem?_getD→bN,drop_succ_cons→tI,replicate→dW
open Nat renaming le_refl→aQ,le_trans→aT,not_lt_zero→kP,lt_of_lt_of_le→aW
open RowKit.Below renaming heap_setCell→dH,refl→au
open _root_.Array renaming getElem?_eq_some_iff→eK
theorem agH{p:Prop}(h:p:=by
 have HI:=aa hI;have HF:=aa hf;have H0:=aa h0;have hn':(at_:Int)+(n:Int)≤268435456:=aj;have hs1:(1:Int)≤(size:Int):=aj;have hs2:(size:Int)≤4096:=aj;have QV:((size:Int)==0)=false:=mM;clear hI hf h0;go_enter Tryz.func328,Tryz.ntmps328;go_wp2_with fail;go_loopw [1] (fun a wr=>∃ b m k:Nat,m≤k∧b+m=at_+n∧a= .int .i64 b∧I (pieces size k b m) wr) (fun a _=>(at_+n - intOf a).toNat)
 case atStart=>exact⟨at_,n,n,aQ _,rfl,rfl,H0.o⟩
 case round=>
  obtain⟨b,m,k,hmk,hbm,rfl,hP⟩:=hrel;have HP:=aa hP;clear hP;rcases Nat.eq_zero_or_pos m with hm0|hm0
  ·subst hm0;have hlt: ¬(b:Int)<(at_:Int)+(n:Int):=aj;have F3: ¬b<at_+n:=aj;have lG:I [] wr:=by
    have:=HP.o;cases k with
    | zero=>exact this
    | succ k=>rwa [pieces,if_pos rfl] at this
   have HFN:=aa lG;clear lG;go_wp2_with fail;go_ret;exact .inl ⟨rfl,HFN.o⟩
  obtain⟨k,rfl⟩: ∃ k',k=k'+1:=⟨k - 1,aj⟩;obtain⟨s,f,t,d,e1,e2,e3,e4,Y8,hts,Wp,hdm,ahn,hps⟩:=uI size k b m hsz.1 hm0 hmk;rw[hps] at HP;have hR:=HI.o _ _ HP.o;have x1:wr.cell? ⟨r,1,none⟩=some (.int .i64 g.from_):=hR.own.cell 1;have x3:wr.cell? ⟨r,3,none⟩=some (.int .i64 size):=hR.own.cell 3;have hlt:(b:Int)<(at_:Int)+(n:Int):=aj;have q1:(b:Int).tdiv (size:Int)=(s:Int):=by rw[abD aj,←e1];simp
  have q2:(b:Int).tmod (size:Int)=(f:Int):=by rw[abC aj,←e2];simp
  have q1':(b:Int) / (size:Int)=(s:Int):=by rw[←e1];simp
  have q2':(b:Int) % (size:Int)=(f:Int):=by rw[←e2];simp
  have hb0:(0:Int)≤(b:Int):=aj;have ky:s≤b:=by rw[←e1];exact Nat.div_le_self _ _
  have ama:(s:Int)≤(b:Int):=aj;have lM:(f:Int)<(size:Int):=aj;have hg':(g.from_:Int)≤65536:=aj;clear hR;by_cases hc:f+m<size
  ·have htm:t=f+m:=by omega
   have e5:(f:Int)+((at_:Int)+(n:Int)) - (b:Int)=(t:Int):=aj;have akn:(t:Int)<(size:Int):=aj;clear hc;go_wp2_with fail;have HG:=HF.o ⟨s,f,t⟩ _ wr HP.o;simp only[htm,P1] at HG;refine HG.mono ?_;clear HG;rintro e w1 hor;rcases hor with⟨rfl,kS⟩|⟨er,o7,rfl,hE1⟩
   ·have wV:=aa kS;clear kS;go_wp2_with fail;go_roundw
    case rel=>exact⟨b+d,m - d,k,ahn,aj,by go_num,wV.o⟩
    case measure=>simp[intOf];omega
   have hq:(er==0)=false:=xu;have vA:=aa hE1;have HER:=aa o7;clear hE1 o7;go_wp2_with fail;go_ret;exact .inr ⟨er,HER.o,rfl,vA.o⟩
  have htm:t=size:=aj;have akn: ¬(f:Int)+((at_:Int)+(n:Int)) - (b:Int)<(size:Int):=aj;clear hc;subst htm;go_wp2_with fail;have HG:=HF.o ⟨s,f,t⟩ _ wr HP.o;simp only[P1] at HG;refine HG.mono ?_;clear HG;rintro e w1 hor;rcases hor with⟨rfl,kS⟩|⟨er,o7,rfl,hE1⟩
  ·have wV:=aa kS;clear kS;go_wp2_with fail;go_roundw
   case rel=>exact⟨b+d,m - d,k,ahn,aj,by go_num,wV.o⟩
   case measure=>simp[intOf];omega
  have hq:(er==0)=false:=xu;have vA:=aa hE1;have HER:=aa o7;clear hE1 o7;go_wp2_with fail;go_ret;exact .inr ⟨er,HER.o,rfl,vA.o⟩):p:=h
theorem I9{p:Prop}(h:p:=by
 rintro e w1 ⟨rfl,hw⟩;have HW:=aa hw;clear hw;go_wp2_with fail;go_ret;exact⟨rfl,HW.o⟩):p:=h
theorem acE{p:Prop}(h:p:=by
 have hlt: ∀ i,i<k→ad i<wr.heap.size:=fun i hi=>(HI.o.each i hi).1.lt
 by_cases e1:i=k <;>by_cases e2:j=k
 ·omega
 ·subst e1;rw[bM,bl _ _ e2] at he;have:=hlt j aj;omega
 ·subst e2;rw[bM,bl _ _ e1] at he;have:=hlt i aj;omega
 rw[bl _ _ e1,bl _ _ e2] at he;exact HI.o.alone i j aj aj he):p:=h
theorem acC{p:Prop}(h:p:=by
 have ho4:=mj.o.own;have hb4:jN w4 5 wr.heap.size (dW s 0):=(Oc.mV (bs:=dW s 0) ad7 (kO)).1;obtain⟨cur,hc,Dn⟩:=hb4;refine⟨cur,(kq.block _ (by have:=HZ4.o;simp;omega) (fun e=>?_)).trans ((Below.heap_alloc w4 _ _ HZ4.o).trans hc),Dn⟩;have hlt:=(dM HI.o.row.own e.symm).1;omega):p:=h
theorem acA{p:Prop}(h:p:=by
 refine⟨?_,h1.block⟩;have h2:=h1.own;rw[iQ (d:=fun i=>[.slice (some ⟨cH ad k wr.heap.size i,0,none⟩) s (cH cp k s i)]) (fun i hi=>?_)] at h2
 ·exact h2
 by_cases e:i=k
 ·subst e;rw[bM,bM,bM]
 rw[bl _ _ e,bl _ _ e,bl _ _ e]):p:=h
theorem acy{p:Prop}(h:p:=by
 go_wp2_with fail;refine HM.o.mono ?_;rintro e w1 ho;obtain⟨he,hd,ht⟩:=pR HH.o ho;rw[Zp.o] at he;subst he;have HF:=aa (show dF p d.op.2 (Gr S w w1) w1∧aI S w w1 from⟨(HL.o _).AB ⟨kp,SK,hd⟩ HS.o ht.size,ht⟩);clear ho hd ht;go_wp2_with fail;go_ret;exact⟨rfl,HF.o⟩):p:=h
theorem acn{p:Prop}(h:p:=by
 have HF:=aa hf;have HC:=aa hc1;clear h hd ho hf hc1;go_enter Tryz.func121,Tryz.ntmps121;go_wp2_with fail;refine ag (Ck p kp w x0) ?_;go_wp2_with fail;go_ret;exact HF.o _ (by rw[←HC.o,ago])):p:=h
theorem ace{p:Prop}(h:p:=by
 have HF:=aa hf;clear hf;go_wp2_with fail;go_roundw
 case rel=>exact⟨k+1,_,_,_,aj,by go_num,HF.o⟩
 case measure=>simp[intOf];omega):p:=h
theorem acd{p:Prop}(h:p:=by
 go_wp2_with fail;refine ag (Ck p kp w x0) ?_;go_wp2_with fail;refine ag HS.o ?_;go_wp2_with fail;go_ret;exact⟨rfl,rfl⟩):p:=h
theorem ab4{p:Prop}(h:p:=by
 go_enter Tryz.func121,Tryz.ntmps121;go_wp2_with fail;refine ag (Ck p kp w x0) ?_;go_wp2_with fail;go_ret;exact HF.o):p:=h
theorem ab3{p:Prop}(h:p:=by
 rw[bl _ _ e,bl _ _ e];have hb:=HE6.o i aj;exact⟨hb.same (hsc _ (aaq hb)),(HI.o.each i aj).2⟩):p:=h
theorem VC{p:Prop}(h:p:=by
 have sw:=(eK.1 ho).1;exact(kq.block g aj (fun e=>HI.o.row.rZ e.symm ho hne rfl)).trans (eA.o.block g sw)):p:=h
theorem Vu{p:Prop}(h:p:=by
 go_wp2_with fail;go_ret;exact⟨kv (a:=decide ((n:Int)*64≤67108864)) (decide_eq_true aj),au _ _⟩):p:=h
theorem Vr{p:Prop}(h:p:=by
 go_wp2_with fail;go_ret;exact⟨kv (a:=decide ((n:Int)*128≤67108864)) (decide_eq_true aj),au _ _⟩):p:=h
theorem Vk{p:Prop}(h:p:=by
 go_wp2_with fail;go_quiet (fail);go_wp2_with fail;go_ret;exact⟨rfl,bJ (au _ _) _⟩):p:=h
theorem mM{p:Prop}(h:p:=by rw[beq_eq_false_iff_ne];omega):p:=h
theorem abK{p:Prop}(h:p:=by obtain⟨g,cap,e,he,_,_,hlt⟩:=hr4.form Zj.o;injection e with e;injection e with e;have e2:g=wr.heap.size:=he;omega):p:=h
theorem abH{p:Prop}(h:p:=by obtain⟨cur,hc,_⟩:=(HI.o.each i hi).1;exact R7 hc (fun c e=>by injection e with _ e2;revert e2;decide)):p:=h
theorem DB{p:Prop}(h:p:=by first|exact x4|exact x5|exact z6):p:=h
theorem Fg{p:Prop}(h:p:=by intro u hu;simp at hu;subst hu;rfl):p:=h
theorem ad7{p:Prop}(h:p:=by rw[yj];have:=ho4;rw[B3] at this;exact this):p:=h
theorem Tz{p:Prop}(h:p:=by obtain⟨kp,SK,h1⟩:=hD;obtain⟨q,h2⟩:=h1.Dt;exact h2.ok):p:=h
theorem Tu{p:Prop}(h:p:=by have:=(av HI.o.ak eA.o).size;exact this):p:=h
theorem xu{p:Prop}(h:p:=by simp[o7]):p:=h
theorem E4{p:Prop}(h:p:=by rw[←hd];exact h.cell 1):p:=h
theorem xm{p:Prop}(h:p:=by simpa using h1):p:=h
section
namespace En
theorem FR(n s:Nat)(hn:1≤n∧n≤65536)(hs:s=64∨s=128)(w:World): Calls af 224 #[.int .i64 n,.int .i64 s] w fun e w'=>e= .returned (.bool true)∧Below w.heap.size w w':=by
 have h1:(1:Int)≤(n:Int):=aj;have h2:(n:Int)≤65536:=aj;have e1:aX bh aO 64 63=0:=aN;have e2:aX bh aO 128 127=0:=aN;rcases hs with rfl|rfl
 ·go_enter Tryz.func224,Tryz.ntmps224;exact Vu
 go_enter Tryz.func224,Tryz.ntmps224;exact Vr
def JV(n s:Nat): Dk:=⟨s,dW n (dW s 0),[]⟩
def agi(n s:Nat)(w:World)(e:Ending)(w':World): Prop:=∃ p S,e= .returned (.tuple #[.pointer (some ⟨p,0,none⟩),.int .i64 0])∧vg p (JV n s) S w'∧(∀ k,S k→w.heap.size≤k)∧Below w.heap.size w w'
theorem pL: (af.info? 34).map (fun i=>(i.zero,i.size,i.bytes))=some (some (.slice none 0 0),1,24):=br
theorem UR(s:Nat)(df:List By)(q:EI): od ⟨s,df,[]⟩ q=fun _=>none:=by funext z;unfold od;split <;>rfl
structure XM(w wr:World)(p mb s k:Nat)(v:Value)(ad cp:Nat→Nat): Prop where
 own:aG wr p 331 #[.int .i64 s,v,.slice none 0 0,.map (some mb)]
 row:aM (fun g=>w.heap.size≤g) wr 34 1 v k (fun i=>[.slice (some ⟨ad i,0,none⟩) s (cp i)])
 each: ∀ i,i<k→jN wr 5 (ad i) (dW s 0)∧s≤cp i∧w.heap.size≤ad i
 alone: ∀ i j,i<k→j<k→ad i=ad j→i=j
 map:fB af 3 .i64 wr mb 0 (fun _=>none)
 ak:Below w.heap.size w wr
 news:w.heap.size≤p∧w.heap.size≤mb
theorem XM.done{w wr:World}{p mb s n:Nat}{v:Value}{ad cp:Nat→Nat}(h:XM w wr p mb s n v ad cp)(hn:1≤n∧n≤65536)(hs:1≤s∧s≤4096): vg p (JV n s) (fun k=>w.heap.size≤k∧k<wr.heap.size) wr:=by
 obtain⟨gd,cd,rfl,_,_,_,sw⟩:=h.row.form aj;have hl:(JV n s).df.length=n:=kO;have hg: ∀ i,i<n→(JV n s).df.getD i []=dW s 0:=fun i hi=>by unfold JV;simp only;rw[bN,List.getElem?_replicate,if_pos hi];rfl
 refine⟨⟨gd,cd,ad,cp,.slice none 0 0,mb,0,fun _=>0,fun _=>0⟩,?_,?_,fun i hi=>?_,aM.nil _ _ _ _ _,fun i hi=>absurd hi (kP i),?_,⟨hs,by rw[hl];exact hn,fun b hb=>?_,fun x hx=>by cases hx⟩,⟨⟨h.news.1,h.own.lt⟩,⟨h.news.2,h.map.lt⟩,fun i hi=>?_,fun i hi=>absurd hi (kP i)⟩,⟨fun i j hi hj=>?_,fun i j _ hj=>absurd hj (kP j)⟩,fun k hk=>hk.2,aQ _⟩
 ·show aG wr p _ #[.int .i64 s,.slice (some ⟨gd,0,none⟩) (JV n s).df.length cd,.slice none 0 0,.map (some mb)]
  rw[hl];exact h.own
 ·show aM _ wr _ 1 (.slice (some ⟨gd,0,none⟩) (JV n s).df.length cd) (JV n s).df.length _
  rw[hl];exact h.row.mono fun g hg hg2=>⟨hg,hg2⟩
 ·rw[hl] at hi;rw[hg i hi];exact⟨(h.each i hi).1,(h.each i hi).2.1⟩
 ·rw[show od (JV n s) _=fun _=>none from UR s _ _];exact h.map
 ·obtain rfl:=List.eq_of_mem_replicate hb;exact kO
 ·rw[hl] at hi;exact⟨(h.each i hi).2.2,(h.each i hi).1.lt⟩
 rw[hl] at hi hj;exact h.alone i j hi hj
theorem yj(s:Nat): aP (dW s 0)=dW s (.int .u8 0):=by unfold aP;rw[List.map_replicate];rfl
theorem B3(s:Nat): flat (fun _=>(Value.int .u8 0).cells.toList) s=dW s (.int .u8 0):=by
 induction s with
 | zero=>rfl
 | succ s ih=>rw[flat,ih,List.replicate_succ'];rfl
theorem uW(n s:Nat)(hn:1≤n∧n≤65536)(hs:s=64∨s=128)(w:World): Calls af 114 #[.int .i64 n,.int .i64 s] w (agi n s w):=by
 obtain⟨i0,CT,hz0,hz1,hz2⟩:=info_parts Oc.eY;obtain⟨j0,Y7,hy0,hy1,YY⟩:=info_parts pL;have HM:=aa (FR n s hn hs);have V8:=@run_makeMap af;have tu:(n:Int)≤65536:=aj;have hs0:(0:Int)≤(s:Int):=aj;have hs1:(s:Int)≤128:=by rcases hs with rfl|rfl <;>simp
 have HN:=aa hn;have HS:=aa hs;have Zj:=aa (show 0<s by rcases hs with rfl|rfl <;>decide);clear hs hn;go_enter Tryz.func114,Tryz.ntmps114;go_wp2_with fail;refine(HM.o w).mono ?_;rintro e w1 ⟨rfl,hb1⟩;have bz:=aa hb1;clear hb1 HM;go_wp2_with fail;obtain⟨p,hp⟩:=ae (w1.heap.size+1);obtain⟨mb,Y3⟩:=ae w1.heap.size;obtain⟨w2,hw2⟩:=ae ((w1.alloc (.map #[] 0)).alloc (.cells #[.int .i64 s,.slice none 0 0,.slice none 0 0,.map (some w1.heap.size)] 331));have hst:XM w w2 p mb s 0 (.slice none 0 0) (fun _=>0) (fun _=>0):=by
  have hz:=bz.o.size;refine⟨?_,aM.nil _ _ _ _ _,fun i hi=>absurd hi (kP i),fun i j hi=>absurd hi (kP i),?_,?_,aj,aj⟩
  ·rw[←hw2,←Y3];exact aG.new fV
  ·rw[←hw2,←Y3];exact(fB.made af _ _ w1).ai (ax (au _ _) _)
  rw[←hw2];exact ax (ax bz.o _) _
 rw[hw2,hp];have HST:=aa hst;clear hst hw2 hp Y3 bz;go_loopw [16] (fun i wr=>∃ (k:Nat) (v:Value) (ad cp:Nat→Nat),k≤n∧i= .int .i64 k∧XM w wr p mb s k v ad cp) (fun i _=>(n - intOf i).toNat)
 case atStart=>exact⟨0,_,_,_,aj,rfl,HST.o⟩
 case round=>
  obtain⟨k,v,ad,cp,hk,rfl,hI⟩:=hrel;have HI:=aa hI;clear hI;by_cases h:k<n
  ·have h':(k:Int)<(n:Int):=by omega
   have x1:wr.cell? ⟨p,1,none⟩=some v:=HI.o.own.cell 1;go_wp2_with fail;refine dI br ?_;refine bj.any (S:=(fun w'=>w'.cell? ⟨p,1,none⟩=some v)) (t:=11) _ _ _ _ ?_;have hHeld:=(show(fun w'=>w'.cell? ⟨p,1,none⟩=some v) wr.drew from x1);refine tt 0 ?_;refine tt 1 ?_;refine tt 2 ?_;refine tt 3 ?_;refine tt 4 ?_;refine tt 5 ?_;refine bj.step (i:=6) br br rfl (fun K hK=>?_);rw[if_pos im];refine mR _ (.tmp 23) (.tmp 23) 34 rfl 5 i0 (.int .u8 0) 1 fL CT hz0 hz1 rfl aN s rfl rfl AY km ?_;intro w4 hr4 hg4;have Mx:Below wr.heap.size wr w4:=Below.grown (az (au _ _)) hg4 (aQ _) dR;have x4:w4.cell? ⟨p,1,none⟩=some v:=(Mx.cell (p:=⟨p,1,none⟩) HI.o.own.lt).trans x1;have hz4:wr.heap.size<w4.heap.size:=abK;have mj:=aa hr4;have gH:=aa Mx;have HZ4:=aa hz4;clear hr4 hg4 Mx hz4;refine hK.out _ _ DB (fun qB=>?_);clear hK K;try simp only[aY]
   refine bj.step (i:=7) br br rfl (fun K hK=>?_);have dX:Below wr.heap.size wr (w4.alloc (.cells #[.slice (some ⟨wr.heap.size,0,none⟩) s s] 34)):=ax gH.o _;have x5:(w4.alloc (.cells #[.slice (some ⟨wr.heap.size,0,none⟩) s s] 34)).cell? ⟨p,1,none⟩=some v:=(dX.cell (p:=⟨p,1,none⟩) HI.o.own.lt).trans x1;have eA:=aa dX;clear dX;go_simp;go_wp2_with fail;refine hK.out _ _ DB (fun o9=>?_);clear hK K;try simp only[aY]
   refine bj.step (i:=8) br br rfl (fun K hK=>?_);rw[if_pos im];refine fp _ (.tmp 22) (.tmp 25) 33 rfl 34 j0 (.slice none 0 0) 1 24 Tryz.underlying33 Y7 hy0 hy1 YY rfl aN v k (fun i=>[.slice (some ⟨ad i,0,none⟩) s (cp i)]) rfl (HI.o.row.ai eA.o) ⟨w4.heap.size,0,none⟩ 1 [.slice (some ⟨wr.heap.size,0,none⟩) s s] rfl rfl (iN w4 _ _) Fg km aj ?_;intro ga ca w6 CP kq;have OU:=eA.o.size;have R7: ∀ {g:Nat} {o:Obj},wr.heap[g]? =some o→(∀ c,o≠ .cells c 34 (0,0))→w6.heap[g]? =wr.heap[g]?:=fun {g o} ho hne=>by
    exact VC
   have zR:aG w6 p 331 #[.int .i64 s,v,.slice none 0 0,.map (some mb)]:=(R7 HI.o.own (fun c e=>yH)).trans HI.o.own;have CS:fB af 3 .i64 w6 mb 0 (fun _=>none):=HI.o.map.same (by obtain⟨es,c,hb⟩:=HI.o.map.obj;exact R7 hb (fun c e=>uA));have he6: ∀ i,i<k→jN w6 5 (ad i) (dW s 0):=fun i hi=>(HI.o.each i hi).1.same abH
   have hn6:jN w6 5 wr.heap.size (dW s 0):=by
    exact acC
   have Wr:Below w.heap.size w w6:=(av HI.o.ak eA.o).grown kq Tu (fun g e=>HI.o.row.block g e);have m6:=zR.mark 1;have z6:=zR.cl 1;have zQ:p≠ga:=CP.rZ rfl zR (fun c e=>yH);have HR6:=aa CP;have Nb:=aa zR;have HM6:=aa CS;have HE6:=aa he6;have KU:=aa hn6;have ij:=aa Wr;have HPG:=aa zQ;clear CP kq R7 zR CS he6 hn6 Wr zQ OU;refine hK.out _ _ DB (fun qA=>?_);clear hK K;try simp only[aY]
   refine tp 9 ?_;refine tt 10 ?_;refine bj.last br ?_;refine kB 11 br br ?_;simp only[tI,Hb];have hf:XM w (w6.setCell ⟨p,1,none⟩ (.slice (some ⟨ga,0,none⟩) (k+1) ca)) p mb s (k+1) (.slice (some ⟨ga,0,none⟩) (k+1) ca) (cH ad k wr.heap.size) (cH cp k s):=by
    have hpw:w.heap.size≤p:=HI.o.news.1;have hsc: ∀ g,g≠p→(w6.setCell ⟨p,1,none⟩ (.slice (some ⟨ga,0,none⟩) (k+1) ca)).heap[g]? =w6.heap[g]?:=fun g hg=>dH w6 ⟨p,1,none⟩ _ g hg
    have aaq: ∀ {g:Nat},jN w6 5 g (dW s 0)→g≠p:=fun {g} hb e=>by
     obtain⟨cur,hc,_⟩:=hb;have h2:=Nb.o;rw[aG,←e,hc] at h2;injection h2 with h2
     injection h2 with _ h3
     revert h3;decide
    have hwr:w.heap.size≤wr.heap.size:=HI.o.ak.size;refine⟨by simpa using Nb.o.put 1 (.slice (some ⟨ga,0,none⟩) (k+1) ca),?_,fun i hi=>?_,fun i j hi hj he=>?_,HM6.o.same (hsc mb (fun e=>HM6.o.mz Nb.o e.symm)),eF ij.o hpw _,HI.o.news⟩
    ·have h1:=(HR6.o.mono (T:=fun g=>w.heap.size≤g) (fun g hg _=>by
      rcases hg with hg|hg
      ·exact hg
      have:=eA.o.size;omega)).OM (hsc ga (Ne.symm HPG.o))
     exact acA
    ·by_cases e:i=k
     ·subst e;rw[bM,bM];exact⟨KU.o.same (hsc _ (aaq KU.o)),aQ _,hwr⟩
     exact ab3
    exact acE
   exact ace
  have h': ¬(k:Int)<(n:Int):=aj;have Ms:k=n:=aj;have hd:=HI.o;rw[Ms] at hd;have lG:agi n s w (.returned (.tuple #[.pointer (some ⟨p,0,none⟩),.int .i64 0])) wr:=⟨p,_,rfl,hd.done HN.o (by rcases HS.o with rfl|rfl <;>omega),fun k hk=>hk.1,hd.ak⟩;have HF:=aa lG;clear lG hd Ms;go_wp2_with fail;go_ret2;exact HF.o
end En
end
section
namespace En
def WV(d:bK)(kp:Nat): Array Value:=#[.pointer (some ⟨kp,0,none⟩),.bool d.down,.int .i64 d.eo,.int .i64 d.count]
structure qM(S:Nat→Prop)(w:World)(p:Nat)(d:bK)(kp:Nat)(SK:Nat→Prop): Prop where
 own:aG w p 218 (WV d kp)
 Dt:vg kp d.dk SK w
 bA:S p∧∀ k,SK k→S k∧k≠p
 lt: ∀ k,S k→k<w.heap.size
 arm: -1≤d.eo∧d.eo≤9223372036854775807
def dF(p:Nat)(d:bK)(S:Nat→Prop)(w:World): Prop:=∃ kp SK,qM S w p d kp SK
theorem aD(p:Nat)(d:bK): Loc (dF p d):=by
 refine⟨fun⟨_,_,h⟩=>h.lt,fun {S w w'} ⟨kp,SK,h⟩ hz hk=>⟨kp,SK,?_⟩,fun {S T w} ⟨kp,SK,h⟩ p9 hT=>⟨kp,SK,?_⟩⟩
 ·exact⟨(hk p h.bA.1).trans h.own,(mf kp d.dk).same h.Dt hz (fun k hs=>hk k (h.bA.2 k hs).1),h.bA,fun k hs=>aW (h.lt k hs) hz,h.arm⟩
 exact⟨h.own,h.Dt,⟨p9 _ h.bA.1,fun k hs=>⟨p9 _ (h.bA.2 k hs).1,(h.bA.2 k hs).2⟩⟩,hT,h.arm⟩
theorem qM.lV{S:Nat→Prop}{w w':World}{p kp:Nat}{d d':bK}{SK:Nat→Prop}(h:qM S w p d kp SK)(ht:aI (· =p) w w')(ho:aG w' p 218 (WV d' kp))(hd:d'.dk=d.dk)(ha: -1≤d'.eo∧d'.eo≤9223372036854775807): qM S w' p d' kp SK:=
 ⟨ho,by rw[hd];exact(mf kp d.dk).cO h.Dt ht (fun k hs=>(h.bA.2 k hs).2),h.bA,fun k hs=>aW (h.lt k hs) ht.size,ha⟩
theorem qM.step{S:Nat→Prop}{w w':World}{p kp:Nat}{d:bK}{SK:Nat→Prop}{k':Dk}(h:qM S w p d kp SK)(ht:aI SK w w')(hd:vg kp k' (Gr SK w w') w'): qM (Gr S w w') w' p {d with dk:=k'} kp (Gr SK w w'):=
 ⟨ht.arr h.own (fun e=>(h.bA.2 p e).2 rfl),hd,⟨.inl h.bA.1,fun k hs=>by
  rcases hs with hs|hs
  ·exact⟨.inl (h.bA.2 k hs).1,(h.bA.2 k hs).2⟩
  ·exact⟨.inr hs,fun e=>by have:=h.own.lt;omega⟩⟩,fun k hs=>by
  rcases hs with hs|hs
  ·exact aW (h.lt k hs) ht.size
  exact hs.2,h.arm⟩
theorem Ck(p kp:Nat)(w:World)(h:w.cell? ⟨p,0,none⟩=some (.pointer (some ⟨kp,0,none⟩))): Calls af 106 #[.pointer (some ⟨p,0,none⟩)] w fun e w'=>e= .returned (.bool false)∧w'=w:=by
 go_enter Tryz.func106,Tryz.ntmps106;go_wp2_with fail;go_ret;exact⟨rfl,rfl⟩
theorem ago(x:Int): aO.wrap x=wrap64 x:=by rw[IntKind.wrap_i64];unfold wrap64;rfl
def oM(p kp:Nat)(d:bK)(w:World)(e:Ending)(w':World): Prop:=e= .returned (.int .i64 (if d.op.1=true then 0 else 60))∧aG w' p 218 (WV d.op.2 kp)∧aI (· =p) w w'
theorem UX(p kp:Nat)(d:bK)(w:World)(h:aG w p 218 (WV d kp))(hd:d.down=true): Calls af 121 #[.pointer (some ⟨p,0,none⟩)] w (oM p kp d w):=by
 have x0:w.cell? ⟨p,0,none⟩=some (.pointer (some ⟨kp,0,none⟩)):=h.cell 0;have x1:w.cell? ⟨p,1,none⟩=some (.bool true):=E4;have ho:d.op=(false,d):=by unfold bK.op;rw[if_pos hd]
 have hf:oM p kp d w (.returned (.int .i64 60)) w:=by unfold oM;rw[ho];exact⟨rfl,h,aI.refl _ _⟩
 have HF:=aa hf;clear h hd ho hf;exact ab4
theorem QH(p kp:Nat)(d:bK)(w:World)(h:aG w p 218 (WV d kp))(hd:d.down=false)(ha:d.eo=0): Calls af 121 #[.pointer (some ⟨p,0,none⟩)] w (oM p kp d w):=by
 have x0:w.cell? ⟨p,0,none⟩=some (.pointer (some ⟨kp,0,none⟩)):=h.cell 0;have x1:w.cell? ⟨p,1,none⟩=some (.bool false):=E4;have x2:w.cell? ⟨p,2,none⟩=some (.int .i64 0):=by rw[←ha];exact h.cell 2
 have m1:=h.mark 1;have m2:=h.mark 2;have ho:d.op=(false,{d with down:=true,eo:=-1}):=by unfold bK.op;rw[if_neg (by rw[hd];simp),if_pos ha]
 have hf:oM p kp d w (.returned (.int .i64 60)) ((w.setCell ⟨p,1,none⟩ (.bool true)).setCell ⟨p,2,none⟩ (.int .i64 (-1))):=by
  unfold oM;rw[ho];exact⟨rfl,by simpa[WV] using(h.put 1 (.bool true)).put 2 (.int .i64 (-1)),(aI.at w p 1 _).Cb 2 _⟩
 have HF:=aa hf;clear h hd ho hf ha;exact ab4
theorem Md(p kp:Nat)(d:bK)(w:World)(h:aG w p 218 (WV d kp))(hd:d.down=false)(ha:0<d.eo)(ha2:d.eo≤9223372036854775807): Calls af 121 #[.pointer (some ⟨p,0,none⟩)] w (oM p kp d w):=by
 have x0:w.cell? ⟨p,0,none⟩=some (.pointer (some ⟨kp,0,none⟩)):=h.cell 0;have x1:w.cell? ⟨p,1,none⟩=some (.bool false):=E4;have x2:w.cell? ⟨p,2,none⟩=some (.int .i64 d.eo):=h.cell 2;have x3:w.cell? ⟨p,3,none⟩=some (.int .i64 d.count):=h.cell 3;have m2:=h.mark 2;have m3:=h.mark 3;have hq:(d.eo==0)=false:=fV;have ho:d.op=(true,{d with eo:=d.eo - 1,count:=aO.wrap (d.count+1)}):=by unfold bK.op;rw[if_neg (by rw[hd];simp),if_neg aj,if_pos ha]
 obtain⟨c1,hc1⟩:=ae (aO.wrap (d.count+1));have hf: ∀ W:World,W=(w.setCell ⟨p,2,none⟩ (.int .i64 (d.eo - 1))).setCell ⟨p,3,none⟩ (.int .i64 c1)→oM p kp d w (.returned (.int .i64 0)) W:=by
  rintro W rfl;unfold oM;rw[ho];exact⟨rfl,by simpa[WV,hc1] using(h.put 2 (.int .i64 (d.eo - 1))).put 3 (.int .i64 c1),(aI.at w p 2 _).Cb 3 _⟩
 exact acn
theorem QI(p kp:Nat)(d:bK)(w:World)(h:aG w p 218 (WV d kp))(hd:d.down=false)(ha:d.eo<0): Calls af 121 #[.pointer (some ⟨p,0,none⟩)] w (oM p kp d w):=by
 have x0:w.cell? ⟨p,0,none⟩=some (.pointer (some ⟨kp,0,none⟩)):=h.cell 0;have x1:w.cell? ⟨p,1,none⟩=some (.bool false):=E4;have x2:w.cell? ⟨p,2,none⟩=some (.int .i64 d.eo):=h.cell 2;have x3:w.cell? ⟨p,3,none⟩=some (.int .i64 d.count):=h.cell 3;have m3:=h.mark 3;have hq:(d.eo==0)=false:=fV;have hn: ¬0<d.eo:=aj;have ho:d.op=(true,{d with count:=aO.wrap (d.count+1)}):=by unfold bK.op;rw[if_neg (by rw[hd];simp),if_neg aj,if_neg hn]
 obtain⟨c1,hc1⟩:=ae (aO.wrap (d.count+1));have hf: ∀ W:World,W=w.setCell ⟨p,3,none⟩ (.int .i64 c1)→oM p kp d w (.returned (.int .i64 0)) W:=by
  rintro W rfl;unfold oM;rw[ho];exact⟨rfl,by simpa[WV,hc1] using h.put 3 (.int .i64 c1),aI.at w p 3 _⟩
 exact acn
theorem fP(p kp:Nat)(d:bK)(w:World)(h:aG w p 218 (WV d kp))(ha:d.eo≤9223372036854775807): Calls af 121 #[.pointer (some ⟨p,0,none⟩)] w (oM p kp d w):=by
 cases hd:d.down with
 | true=>exact UX p kp d w h hd
 | false=>
  rcases Int.lt_trichotomy d.eo 0 with h1|h1|h1
  ·exact QI p kp d w h hd h1
  ·exact QH p kp d w h hd h1
  exact Md p kp d w h hd h1 ha
end En
end
section
namespace En
theorem bK.ug(d:bK): d.op.2.dk=d.dk:=by unfold bK.op;split;rfl;split <;>rfl
theorem bK.aey(d:bK)(h: -1≤d.eo∧d.eo≤9223372036854775807): -1≤d.op.2.eo∧d.op.2.eo≤9223372036854775807:=by
 unfold bK.op;split
 ·exact h
 split
 ·simp
 simp only;split <;>omega
variable{p:Nat}{S:Nat→Prop}{w:World}
theorem dF.lift{d:bK}{w1 w2:World} (h:dF p d (Gr S w1 w2) w2)(hS: ∀ k,S k→k<w.heap.size)(h1:w.heap.size≤w1.heap.size)(h2:w1.heap.size≤w2.heap.size): dF p d (Gr S w w2) w2:=
 (aD p d).mono h (fun k hk=>by rcases hk with hk|hk;exact .inl hk;exact .inr ⟨aj,hk.2⟩) (fun k hk=>by rcases hk with hk|hk;exact aW (hS k hk) aj;exact hk.2)
theorem pR{kp:Nat} {d:bK}{SK:Nat→Prop} {w1:World} {e:Ending}(h:qM S w p d kp SK)(ho:oM p kp d w e w1): e= .returned (.int .i64 (if d.op.1=true then 0 else 60))∧qM S w1 p d.op.2 kp SK∧aI S w w1:=
 ⟨ho.1,h.lV ho.2.2 ho.2.1 d.ug (d.aey h.arm),ho.2.2.mono fun k _ hk=>hk▸h.bA.1⟩
theorem Ey{d:bK}(h:dF p d S w)(at_:Int)(b:By)(A:Option Addr)(c:Nat)(hB:Bs w A b)(hA:rh A)(hAS: ∀ g off,A=some ⟨g,off,none⟩→¬S g)(hrow:d.dk.row.length<1000000):
  Calls af 47 #[.pointer (some ⟨p,0,none⟩),.int .i64 at_,.slice A b.length c] w fun e w'=>e= .returned (.int .i64 (d.write at_ b).1)∧dF p (d.write at_ b).2 (Gr S w w') w'∧aI S w w':=by
 have L:=aD p;have HS:=aa (fun k hk=>(L d).lt h k hk);obtain⟨kp,SK,h⟩:=h;have HM:=aa (fP p kp d w h.own h.arm.2);have HH:=aa h;have HB:=aa hB;have HA:=aa hA;have CZ:=aa hAS;have HL:=aa L;clear h hB hA hAS L;cases hop:d.op.1 with
 | false=>
  have hw:d.write at_ b=(60,d.op.2):=by unfold bK.write;rw[if_neg (by rw[hop];simp)]
  rw[hw];have Zp:=aa hop;clear hop hw;go_enter Tryz.func47,Tryz.ntmps47;exact acy
 | true=>
  have hw:d.write at_ b=((d.op.2.dk.write at_ b).1,{d.op.2 with dk:=(d.op.2.dk.write at_ b).2}):=by unfold bK.write;rw[if_pos hop]
  rw[hw];have Zp:=aa hop;clear hop hw;go_enter Tryz.func47,Tryz.ntmps47;go_wp2_with fail;refine HM.o.mono ?_;rintro e w1 ho;obtain⟨he,hd,ht⟩:=pR HH.o ho;rw[Zp.o] at he;subst he;have y0:w1.cell? ⟨p,0,none⟩=some (.pointer (some ⟨kp,0,none⟩)):=hd.own.cell 0;have WE:=HB.o.cO ht (fun g off e _=>CZ.o g off e);have Co:=aa (Xn hd.Dt at_ b A c WE HA.o (by rw[d.ug];exact hrow));have HD:=aa hd;have HT:=aa ht;clear ho hd ht WE;go_wp2_with fail;refine Co.o.mono ?_;rintro e w2 ⟨rfl,hk,uh⟩;have hd2:=HD.o.step uh hk;have HF:=aa (show dF p {d.op.2 with dk:=(d.op.2.dk.write at_ b).2} (Gr S w w2) w2∧aI S w w2 from⟨dF.lift ⟨kp,_,hd2⟩ HS.o HT.o.size uh.size,HT.o.trans (uh.mono fun k _ hk=>(HD.o.bA.2 k hk).1)⟩);clear hk uh hd2 Co;go_wp2_with fail;go_ret;exact⟨rfl,HF.o⟩
theorem XK{d:bK}(h:dF p d S w)(hrow:d.dk.row.length≤1000000):
  Calls af 332 #[.pointer (some ⟨p,0,none⟩)] w fun e w'=>e= .returned (.int .i64 d.sync.1)∧dF p d.sync.2 (Gr S w w') w'∧aI S w w':=by
 have L:=aD p;have HS:=aa (fun k hk=>(L d).lt h k hk);obtain⟨kp,SK,h⟩:=h;have HM:=aa (fP p kp d w h.own h.arm.2);have HH:=aa h;have HL:=aa L;clear h L;cases hop:d.op.1 with
 | false=>
  have hw:d.sync=(60,d.op.2):=by unfold bK.sync;rw[if_neg (by rw[hop];simp)]
  rw[hw];have Zp:=aa hop;clear hop hw;go_enter Tryz.func332,Tryz.ntmps332;exact acy
 | true=>
  have hw:d.sync=(0,{d.op.2 with dk:=d.op.2.dk.settle (fun _=>d.op.2.dk.size)}):=by unfold bK.sync;rw[if_pos hop,d.ug]
  rw[hw];have Zp:=aa hop;clear hop hw;go_enter Tryz.func332,Tryz.ntmps332;go_wp2_with fail;refine HM.o.mono ?_;rintro e w1 ho;obtain⟨he,hd,ht⟩:=pR HH.o ho;rw[Zp.o] at he;subst he;have y0:w1.cell? ⟨p,0,none⟩=some (.pointer (some ⟨kp,0,none⟩)):=hd.own.cell 0;have Co:=aa (aaV hd.Dt (by rw[d.ug];exact hrow));have HD:=aa hd;have HT:=aa ht;clear ho hd ht;go_wp2_with fail;refine Co.o.mono ?_;rintro e w2 ⟨rfl,hk,uh⟩;have hd2:=HD.o.step uh hk;have HF:=aa (show dF p {d.op.2 with dk:=d.op.2.dk.settle (fun _=>d.op.2.dk.size)} (Gr S w w2) w2∧aI S w w2 from⟨dF.lift ⟨kp,_,hd2⟩ HS.o HT.o.size uh.size,HT.o.trans (uh.mono fun k _ hk=>(HD.o.bA.2 k hk).1)⟩);clear hk uh hd2 Co;go_wp2_with fail;go_ret;exact⟨rfl,HF.o⟩
def PRd(S:Nat→Prop)(p:Nat)(r:Int × By × bK)(w:World)(e:Ending)(w':World): Prop:=
 (∃ A c,e= .returned (.tuple #[.slice A r.2.1.length c,.int .i64 r.1])∧(r.2.1≠ []→∃ g,A=some ⟨g,0,none⟩∧w.heap.size≤g∧jN w' 5 g r.2.1)∧r.2.1.length≤c)∧dF p r.2.2 S w'∧aI S w w'
theorem Kf{d:bK}(h:dF p d S w)(at_:Int): Calls af 330 #[.pointer (some ⟨p,0,none⟩),.int .i64 at_] w (PRd S p (d.read at_) w):=by
 obtain⟨kp,SK,h⟩:=h;have HM:=aa (fP p kp d w h.own h.arm.2);have HH:=aa h;clear h;cases hop:d.op.1 with
 | false=>
  have hw:d.read at_=(60,[],d.op.2):=by unfold bK.read;rw[if_neg (by rw[hop];simp)]
  rw[hw];have Zp:=aa hop;clear hop hw;go_enter Tryz.func330,Tryz.ntmps330;go_wp2_with fail;refine HM.o.mono ?_;rintro e w1 ho;obtain⟨he,hd,ht⟩:=pR HH.o ho;rw[Zp.o] at he;subst he;have HF:=aa (show dF p d.op.2 S w1∧aI S w w1 from⟨⟨kp,SK,hd⟩,ht⟩);clear ho hd ht;go_wp2_with fail;go_ret2;exact⟨⟨none,0,rfl,fun h=>absurd rfl h,aQ _⟩,HF.o⟩
 | true=>
  have hw:d.read at_=((d.op.2.dk.read at_).1,(d.op.2.dk.read at_).2,d.op.2):=by unfold bK.read;rw[if_pos hop]
  rw[hw];have Zp:=aa hop;clear hop hw;go_enter Tryz.func330,Tryz.ntmps330;go_wp2_with fail;refine HM.o.mono ?_;rintro e w1 ho;obtain⟨he,hd,ht⟩:=pR HH.o ho;rw[Zp.o] at he;subst he;have y0:w1.cell? ⟨p,0,none⟩=some (.pointer (some ⟨kp,0,none⟩)):=hd.own.cell 0;have Co:=aa (aa1 hd.Dt at_);have HD:=aa hd;have HT:=aa ht;clear ho hd ht;go_wp2_with fail;refine Co.o.mono ?_;rintro e w2 ⟨A,c,rfl,h1,h2,h3⟩;have hf:PRd S p ((d.op.2.dk.read at_).1,(d.op.2.dk.read at_).2,d.op.2) w (.returned (.tuple #[.slice A (d.op.2.dk.read at_).2.length c,.int .i64 (d.op.2.dk.read at_).1])) w2:=
   ⟨⟨A,c,rfl,fun hne=>by obtain⟨g,a,b,x⟩:=h1 hne;exact⟨g,a,aT HT.o.size b,x⟩,h2⟩,(aD p d.op.2).ak ⟨kp,SK,HD.o⟩ h3,HT.o.ak h3⟩
  have HF:=aa hf;clear h1 h2 h3 Co hf;go_wp2_with fail;go_ret2;exact HF.o
end En
end
section
namespace En
variable{S:Nat→Prop}{w:World}
theorem Ke{p:Nat}{d:bK}(h:dF p d S w): Calls af 125 #[.pointer (some ⟨p,0,none⟩)] w fun e w'=>e= .returned (.int .i64 d.dk.df.length)∧w'=w:=by
 obtain⟨kp,SK,h⟩:=h;have x0:w.cell? ⟨p,0,none⟩=some (.pointer (some ⟨kp,0,none⟩)):=h.own.cell 0;obtain⟨q,hq⟩:=h.Dt;have HS:=aa (Cg hq);clear h hq;go_enter Tryz.func125,Tryz.ntmps125;exact acd
theorem XL{p:Nat}{d:bK}(h:dF p d S w): Calls af 126 #[.pointer (some ⟨p,0,none⟩)] w fun e w'=>e= .returned (.int .i64 d.dk.size)∧w'=w:=by
 obtain⟨kp,SK,h⟩:=h;have x0:w.cell? ⟨p,0,none⟩=some (.pointer (some ⟨kp,0,none⟩)):=h.own.cell 0;obtain⟨q,hq⟩:=h.Dt;have HS:=aa (aaW hq);clear h hq;go_enter Tryz.func126,Tryz.ntmps126;exact acd
theorem Pf{kp:Nat}{k:Dk}(h:vg kp k S w): Calls af 115 #[.pointer (some ⟨kp,0,none⟩)] w fun e w'=>∃ p,e= .returned (.tuple #[.pointer (some ⟨p,0,none⟩),.int .i64 0])∧dF p ⟨k,false,-1,0⟩ (Gr S w w') w'∧w.heap.size≤p∧Below w.heap.size w w':=by
 have HL:=aa (mf kp k);have HS:=aa (fun j hj=>(mf kp k).lt h j hj);have HH:=aa h;obtain⟨q,hq⟩:=h;have Gm:=aa (Cg hq);have hn:((k.df.length:Int)==0)=false:=by have:=hq.ok.some;rw[beq_eq_false_iff_ne];omega
 have pq:(k.df.length==0)=false:=by have:=hq.ok.some;rw[beq_eq_false_iff_ne];omega
 clear hq;go_enter Tryz.func115,Tryz.ntmps115;go_wp2_with fail;refine ag Gm.o ?_;clear Gm;go_wp2_with fail;go_ret2;have hb:Below w.heap.size w (w.alloc (.cells #[.pointer (some ⟨kp,0,none⟩),.bool false,.int .i64 (-1),.int .i64 0] 218)):=ax (au _ _) _;refine⟨w.heap.size,rfl,⟨kp,S,⟨aG.fresh w _ _,HL.o.ak HH.o hb,⟨.inr ⟨aQ _,dR⟩,fun j hj=>⟨.inl hj,fun e=>by have:=HS.o j hj;omega⟩⟩,fun j hj=>?_,dR⟩⟩,aQ _,hb⟩;rcases hj with hj|hj
 ·have:=HS.o j hj;simp;omega
 exact hj.2
end En
end
section
namespace En
structure fT(w:World)(r p:Nat)(g:Rg)(size:Nat): Prop where
 own:aG w r 239 #[.pointer (some ⟨p,0,none⟩),.int .i64 g.from_,.int .i64 g.count,.int .i64 size]
 size:1≤size∧size≤4096
 count:1≤g.count∧g.from_+g.count≤65536
variable{w:World}{r p size:Nat}
theorem fT.ai{w':World} {g:Rg}(h:fT w r p g size)(hb:Below w.heap.size w w'): fT w' r p g size:=⟨h.own.ai hb,h.size,h.count⟩
theorem fT.cO{S:Nat→Prop}{w':World} {g:Rg}(h:fT w r p g size)(ht:aI S w w')(hr: ¬S r): fT w' r p g size:=⟨ht.arr h.own hr,h.size,h.count⟩
theorem fT.eQ{g:Rg}(h:fT w r p g size): g.bytes size≤268435456:=by
 have h1:=h.size;have h2:=h.count;unfold Rg.bytes
 calc g.count*size≤65536*4096:=Nat.mul_le_mul aj aj
  _=268435456:=aN
theorem nW(r p:Nat)(w:World)(h:w.cell? ⟨r,0,none⟩=some (.pointer (some ⟨p,0,none⟩))): Calls af 206 #[.pointer (some ⟨r,0,none⟩)] w fun e w'=>e= .returned (.bool true)∧w'=w:=by
 go_enter Tryz.func206,Tryz.ntmps206;go_wp2_with fail;go_ret;exact⟨rfl,rfl⟩
theorem Ew{g:Rg}(h:fT w r p g size): Calls af 207 #[.pointer (some ⟨r,0,none⟩)] w fun e w'=>e= .returned (.int .i64 (g.bytes size:Nat))∧Below w.heap.size w w':=by
 have x2:w.cell? ⟨r,2,none⟩=some (.int .i64 g.count):=h.own.cell 2;have x3:w.cell? ⟨r,3,none⟩=some (.int .i64 size):=h.own.cell 3;have hb:=h.eQ;have e1:(g.count:Int)*(size:Int)=((g.bytes size:Nat):Int):=by unfold Rg.bytes;push_cast;rfl
 have hw:aO.wrap ((g.bytes size:Nat):Int)=((g.bytes size:Nat):Int):=IntWalk.i64_in _ aj;have hb':((g.bytes size:Nat):Int)≤268435456:=aj;clear h;generalize g.bytes size=B at *;go_enter Tryz.func207,Tryz.ntmps207;exact Vk
theorem nC{g:Rg}(h:fT w r p g size): Calls af 95 #[.pointer (some ⟨r,0,none⟩)] w fun e w'=>e= .returned (.int .i64 (g.bytes size:Nat))∧Below w.heap.size w w':=by
 have x0:w.cell? ⟨r,0,none⟩=some (.pointer (some ⟨p,0,none⟩)):=h.own.cell 0;have HB:=aa (Ew h);clear h;go_enter Tryz.func95,Tryz.ntmps95;go_wp2_with fail;refine ag (nW r p w x0) ?_;go_wp2_with fail;refine HB.o.mono ?_;exact I9
theorem kC{g:Rg}(h:fT w r p g size): Calls af 128 #[.pointer (some ⟨r,0,none⟩)] w fun e w'=>e= .returned (.int .i64 size)∧w'=w:=by
 have x0:w.cell? ⟨r,0,none⟩=some (.pointer (some ⟨p,0,none⟩)):=h.own.cell 0;have x3:w.cell? ⟨r,3,none⟩=some (.int .i64 size):=h.own.cell 3;clear h;go_enter Tryz.func128,Tryz.ntmps128;go_wp2_with fail;refine ag (nW r p w x0) ?_;go_wp2_with fail;go_ret;exact⟨rfl,rfl⟩
theorem Kc{g:Rg}{d:bK}{S:Nat→Prop}(h:fT w r p g size)(hD:dF p d S w)(hrow:d.dk.row.length≤1000000): Calls af 295 #[.pointer (some ⟨r,0,none⟩)] w fun e w'=>e= .returned (.int .i64 d.sync.1)∧dF p d.sync.2 (Gr S w w') w'∧aI S w w':=by
 have x0:w.cell? ⟨r,0,none⟩=some (.pointer (some ⟨p,0,none⟩)):=h.own.cell 0;have HS:=aa (XK hD hrow);clear h hD;go_enter Tryz.func295,Tryz.ntmps295;go_wp2_with fail;refine ag (nW r p w x0) ?_;go_wp2_with fail;refine HS.o.mono ?_;exact I9
theorem uI(size k a m:Nat)(hs:1≤size)(hm:1≤m)(hk:m≤k+1): ∃ s f t d,a / size=s∧a % size=f∧min size (f+m)=t∧t - f=d∧f<t∧t≤size∧1≤d∧d≤m∧m - d≤k∧pieces size (k+1) a m=⟨s,f,t⟩::pieces size k (a+d) (m - d):=by
 have hf:a % size<size:=Nat.mod_lt _ hs;refine⟨_,_,_,_,rfl,rfl,rfl,rfl,aj,aj,aj,aj,aj,?_⟩;rw[pieces,if_neg aj]
theorem Rc{g:Rg}(w:World)(lb:Array Value)(at_ n:Nat)(I:List Piece→World→Prop)(Er:Int→World→Prop)(hsz:1≤size∧size≤4096)(hg:g.from_≤65536)(hn:at_+n≤268435456)
  (hI: ∀ ps W,I ps W→fT W r p g size)
  (hf: ∀ x ps W,I (x::ps) W→Calls af 365 (#[.int .i64 ((g.from_+x.s:Nat):Int),.int .i64 x.f,.int .i64 x.t]++lb) W fun e W'=>(e= .returned (.int .i64 0)∧I ps W')∨∃ er:Int,er≠0∧e= .returned (.int .i64 er)∧Er er W')
  (h0:I (pieces size n at_ n) w) :
  Calls af 328 #[.pointer (some ⟨r,0,none⟩),.int .i64 at_,.int .i64 n,.func (.func 365) #[] lb] w fun e w'=>(e= .returned (.int .i64 0)∧I [] w')∨∃ er:Int,er≠0∧e= .returned (.int .i64 er)∧Er er w':=by
 exact agH
theorem MK{g:Rg}(w:World)(lb:Array Value)(at_ n:Nat)(I:List Piece→World→Prop)(Er:Int→World→Prop)(hsz:1≤size∧size≤4096)(hg:g.from_≤65536)(hn:at_+n≤268435456)
  (hI: ∀ ps W,I ps W→fT W r p g size)
  (hf: ∀ x ps W,I (x::ps) W→Calls af 329 (#[.int .i64 ((g.from_+x.s:Nat):Int),.int .i64 x.f,.int .i64 x.t]++lb) W fun e W'=>(e= .returned (.int .i64 0)∧I ps W')∨∃ er:Int,er≠0∧e= .returned (.int .i64 er)∧Er er W')
  (h0:I (pieces size n at_ n) w) :
  Calls af 328 #[.pointer (some ⟨r,0,none⟩),.int .i64 at_,.int .i64 n,.func (.func 329) #[] lb] w fun e w'=>(e= .returned (.int .i64 0)∧I [] w')∨∃ er:Int,er≠0∧e= .returned (.int .i64 er)∧Er er w':=by
 exact agH
end En
end
section
namespace En
variable{r p size:Nat}{w:World}
theorem wj{g:Rg}(h:fT w r p g size)(at_ n:Nat)(hat:at_≤268435456)(hn:n≤268435456): Calls af 327 #[.pointer (some ⟨r,0,none⟩),.int .i64 at_,.int .i64 n] w fun e w'=>e= .returned (.bool (!g.bad size at_ n))∧Below w.heap.size w w':=by
 have hb:=h.eQ;have HB:=aa fun(W:World) (hW:Below w.heap.size w W)=>Ew (h.ai hW)
 obtain⟨B,hB⟩:=ae (g.bytes size);have nN:(!g.bad size at_ n)=(decide (at_≤B) && decide (n≤B - at_)):=by
  unfold Rg.bad;rw[hB,Bool.eq_iff_iff];simp;omega
 rw[nN];rw[hB] at HB hb;clear nN h hB;by_cases h1:at_≤B
 ·have Sg:(at_:Int)≤(B:Int):=by omega
  have t1:decide (at_≤B)=true:=xm;obtain⟨m,hm⟩:=ae (B - at_:Nat);have hm':(B:Int) - (at_:Int)=(m:Int):=aj;have t2:decide ((n:Int)≤(m:Int))=decide (n≤m):=dR;rw[t1,Bool.true_and,hm];have hw:aO.wrap ((m:Nat):Int)=((m:Nat):Int):=IntWalk.i64_in _ aj;clear hm;go_enter Tryz.func327,Tryz.ntmps327;go_wp2_with fail;refine(HB.o _ (au _ _)).mono ?_;rintro e w1 ⟨rfl,aZ⟩;have sN:=aa aZ;clear aZ;go_wp2_with fail;refine(HB.o _ sN.o).mono ?_;rintro e w2 ⟨rfl,hw2⟩;have KR:=aa (show Below w.heap.size w w2 from av sN.o hw2);clear hw2;go_wp2_with fail;go_ret;exact⟨rfl,KR.o⟩
 have Sg: ¬(at_:Int)≤(B:Int):=aj;have t1:decide (at_≤B)=false:=xm;rw[t1,Bool.false_and];go_enter Tryz.func327,Tryz.ntmps327;go_wp2_with fail;refine(HB.o _ (au _ _)).mono ?_;exact I9
def Qe: List Piece→Nat
 | []=>0
 | x::ps=>(x.t - x.f)+Qe ps
theorem nI(size:Nat)(hs:1≤size): ∀ k a n,n≤k→Qe (pieces size k a n)=n
 | 0,a,n,h=>by rw[show n=0 from aj];rfl
 | k+1,a,n,h=>by
  by_cases h0:n=0
  ·rw[pieces,if_pos h0,h0];rfl
  obtain⟨s,f,t,d,_,_,_,e4,Y8,_,_,hdm,hmk,hp⟩:=uI size k a n hs aj h;rw[hp,Qe,nI size hs k _ _ hmk];show t - f+(n - d)=n
  omega
theorem pM(size:Nat)(hs:1≤size): ∀ k a n,n≤k→∀ x∈pieces size k a n,x.f<x.t∧x.t≤size
 | 0,a,n,h=>by rw[pieces];intro x hx;cases hx
 | k+1,a,n,h=>by
  by_cases h0:n=0
  ·rw[pieces,if_pos h0];intro x hx;cases hx
  obtain⟨s,f,t,d,_,_,_,e4,Y8,hts,_,hdm,hmk,hp⟩:=uI size k a n hs aj h;rw[hp];intro x hx;rcases List.mem_cons.1 hx with rfl|hx
  ·exact⟨Y8,hts⟩
  exact pM size hs k _ _ hmk x hx
theorem bK.Oi{d:bK}{at_:Int}(h:(d.read at_).1=0)(hk:d.dk.Ok): (d.read at_).2.1.length=d.dk.size:=by
 unfold bK.read at h ⊢;split at h
 ·rename_i hop;rw[if_pos hop];simp only[bK.ug] at h ⊢;unfold Dk.read at h ⊢;split at h
  ·simp at h
  rename_i hb;rw[if_neg hb];simp only;unfold Dk.look;cases hr:gP d.dk.row at_.toNat with
  | some b=>
   have: ∀ l:List (Nat × By),(∀ x∈l,x.2.length=d.dk.size)→∀ b,gP l at_.toNat=some b→b.length=d.dk.size:=by
    intro l
    induction l with
    | nil=>intro _ b hb;cases hb
    | cons x l ih=>
     intro hl b hb;rw[gP] at hb;split at hb
     ·rename_i b' hb';injection hb with hb
      subst hb;exact ih (fun y hy=>hl y (gv _ hy)) _ hb'
     split at hb
     ·injection hb with hb
      subst hb;exact hl x (List.mem_cons_self ..)
     cases hb
   exact this _ (fun x hx=>(hk.aF x hx).2) b hr
  | none=>
   simp only[Dk.bad,Bool.or_eq_true,decide_eq_true_eq,not_or] at hb;rw[Option.getD_none,bN,List.getElem?_eq_getElem aj];exact hk.each _ (List.getElem_mem _)
 simp at h
theorem bK.lK(d:bK)(at_:Int): (d.read at_).2.2.dk=d.dk:=by unfold bK.read;split <;>exact bK.ug d
structure RdI(S:Nat→Prop)(w:World)(base bx o r p size:Nat)(g:Rg)(R:Int × By × bK)(ps:List Piece)(W:World): Prop where
 rg:fT W r p g size
 box:W.cell? ⟨bx,0,none⟩=some (.pointer (some ⟨r,0,none⟩))
 Xd:base≤W.heap.size
 body: ∃ d acc v,dF p d S W∧d.dk.Ok∧d.dk.size=size∧aG W o 34 #[v]∧W.ownsRow base 5 1 v acc.length (aP acc)∧R=Hs g d ps acc∧acc.length+Qe ps≤268435456
 pcs: ∀ x∈ps,x.f<x.t∧x.t≤size
 cO:aI S w W
def RdE(S:Nat→Prop)(w:World)(p:Nat)(R:Int × By × bK)(er:Int)(W:World): Prop:=∃ d,R=(er,[],d)∧dF p d S W∧aI S w W
structure RdO(S:Nat→Prop)(w:World)(base bx o r:Nat): Prop where
 mh:w.heap.size≤bx∧bx<base
 ho:w.heap.size≤o∧o<base∧o≠bx
 hr:r<w.heap.size∧¬S r
 hS: ∀ k,S k→k<w.heap.size
theorem aev{S:Nat→Prop}{W:World} {base bx o:Nat} {g:Rg}{R:Int × By × bK}{x:Piece}{ps:List Piece}(hO:RdO S w base bx o r)(h:RdI S w base bx o r p size g R (x::ps) W):
  Calls af 365 (#[.int .i64 ((g.from_+x.s:Nat):Int),.int .i64 x.f,.int .i64 x.t]++ #[.pointer (some ⟨bx,0,none⟩),.pointer (some ⟨o,0,none⟩)]) W fun e W'=>(e= .returned (.int .i64 0)∧RdI S w base bx o r p size g R ps W')∨∃ er:Int,er≠0∧e= .returned (.int .i64 er)∧RdE S w p R er W':=by
 obtain⟨d,acc,v,hD,hdk,hsz,hv,hown,hR,Dh⟩:=h.body;have x0:=h.box;have x1:W.cell? ⟨r,0,none⟩=some (.pointer (some ⟨p,0,none⟩)):=h.rg.own.cell 0;obtain⟨Y8,hts⟩:=h.pcs x (List.mem_cons_self ..);have nh:=aa (Kf hD ((g.from_+x.s:Nat):Int));have H:=aa h;have HO:=aa hO;have HDK:=aa hdk;have mi:=aa hsz;have HV:=aa hv;have HW:=aa hown;have HR:=aa hR;have HT:=aa Dh;obtain⟨a,ha⟩:=ae (g.from_+x.s:Nat);rw[ha] at nh ⊢;have HA:=aa ha;obtain⟨er,o7⟩:=ae ((d.read (a:Int)).1);obtain⟨b,hb⟩:=ae ((d.read (a:Int)).2.1);obtain⟨d',O1⟩:=ae ((d.read (a:Int)).2.2);have fE:d.read (a:Int)=(er,b,d'):=by rw[←o7,←hb,←O1]
 rw[fE] at nh;have hstep:R=if er=0 then Hs g d' ps (acc++(b.take x.t).drop x.f)else(er,[],d'):=by rw[hR,Hs,ha,fE]
 have Wn:d'.dk=d.dk:=by rw[←O1];exact bK.lK _ _
 have hbl:er=0→b.length=size:=fun e0=>by rw[←hb,←hsz];exact bK.Oi (o7.trans e0) hdk
 have HST:=aa hstep;have RN:=aa Wn;have EG:=aa hbl;have amt:(x.f:Int)≤(x.t:Int):=aj;have hf0:(0:Int)≤(x.f:Int):=aj;have Ng:=aa Y8;have HTS:=aa hts;clear h hO hdk hsz hv hown hR Dh hD ha o7 hb O1 fE hstep Wn hbl Y8 hts;go_enter Tryz.func365,Tryz.ntmps365;go_wp2_with fail;refine nh.o.mono ?_;rintro e w1 ⟨⟨A,c,rfl,hblk,hc⟩,hD1,ht1⟩;have sB:aI S w w1:=H.o.cO.trans ht1;have HB:=aa hblk;have HC:=aa hc;have Ni:=aa hD1;have jq:=aa sB;have Zg:=aa ht1;clear hblk hc hD1 ht1 sB;by_cases h0:er=0
 ·subst h0;have hbl:=EG.o rfl;have af2:=aa hbl;have ale:=aa (show R=Hs g d' ps (acc++(b.take x.t).drop x.f)from by rw[HST.o,if_pos rfl]);clear EG HST;have hne:b≠ []:=by intro e;rw[e] at hbl;have:=Ng.o;have:=HTS.o;simp at hbl;omega
  obtain⟨gb,rfl,hgb,hBb⟩:=HB.o hne;have HG:=aa hgb;have ie:=aa hBb;have V6: ∀ k,w.heap.size≤k→¬S k:=fun k hk hs=>Nat.lt_irrefl _ (aW (HO.o.hS k hs) hk)
  have y0:w1.cell? ⟨o,0,none⟩=some v:=(Zg.o.arr HV.o (V6 _ HO.o.ho.1)).cell 0;have m0:w1.frozen? ⟨o,0,none⟩=false:=(Zg.o.arr HV.o (V6 _ HO.o.ho.1)).mark 0;have htc:(x.t:Int)≤(c:Int):=by have h1:b.length≤c:=HC.o;have:=HTS.o;omega
  have D4:w1.ownsRow base 5 1 v acc.length (aP acc):=dY HW.o fun k hk=>by
   have h1:=pO HW.o k hk;exact Zg.o.block k (dM HW.o hk).1 (V6 k (by have:=HO.o.ho;omega))
  have sN:=aa D4;have hcf: ¬c=x.f:=by have:=Ng.o;omega
  clear hbl hne hgb hBb V6 D4;go_wp2_with fail;refine dI br ?_;refine bj.any (S:=(fun w'=>w'.cell? ⟨o,0,none⟩=some v)) (t:=6) _ _ _ _ ?_;have hHeld:=(show(fun w'=>w'.cell? ⟨o,0,none⟩=some v) w1.drew from y0);refine tt 0 ?_;refine tt 1 ?_;refine tt 2 ?_;refine tt 3 ?_;refine tt 4 ?_;refine bj.step (i:=5) br br rfl (fun K hK=>?_);rw[if_pos im];obtain⟨i0,hi,hz0,hz1,hz2⟩:=info_parts eY;have Dq:((b.take x.t).drop x.f).length=x.t - x.f:=by have:=af2.o;have:=HTS.o;simp;omega
  have hlen:acc.length+(x.t - x.f)≤268435456:=by have:=HT.o;rw[Qe] at this;omega
  have tO:Bs w1.drew (some ⟨gb,x.f,none⟩) ((b.take x.t).drop x.f):=by have:=((show Bs w1.drew (some ⟨gb,0,none⟩) b from fun hne=>ie.o.bs hne).take x.t).drop x.f;rwa [Nat.zero_add] at this
  refine wp_append_own w1.drew (.tmp 23) (.tmp 27) 34 rfl base 5 i0 (.int .u8 0) 1 1 fL hi hz0 hz1 hz2 rfl aN v acc.length (aP acc) rfl sN.o ⟨gb,x.f,none⟩ (x.t - x.f) (c - x.f) (aP ((b.take x.t).drop x.f)) rfl (by rw[bu,Dq,Nat.mul_one]) tO.read (bQ _) km aj (aT H.o.Xd Zg.o.size) ?_;intro v5 w5 kz lZ _;obtain⟨A5,c5,rfl⟩:=cy kz;have hno:some o≠v.ownBlock:=fun e=>by have:=pO sN.o o e.symm;have:=HO.o.ho;omega
  have hol:o<w1.heap.size:=bD _ _ y0;have x5:w5.cell? ⟨o,0,none⟩=some v:=(eO (a:=⟨o,0,none⟩) (lZ.block o hol hno)).trans y0;have m5:w5.frozen? ⟨o,0,none⟩=false:=(World.frozen?_of_block (a:=⟨o,0,none⟩) (lZ.block o hol hno)).trans m0;have EC:=aa kz;have wH:=aa lZ;have Yr:=aa Dq;have vd:=aa hlen;clear tO hno hol kz lZ Dq hlen hi hz0 hz1 hz2 i0;refine hK.out _ _ (by exact x5) (fun jt=>?_);clear hK K;try simp only[aY]
  refine bj.last br ?_;refine kB 6 br br ?_;simp only[tI,Hb];go_wp2_with fail;go_ret;refine .inl ⟨rfl,?_⟩;have R7:o<w5.heap.size:=aW (aW HO.o.ho.2.1 H.o.Xd) (aT Zg.o.size wH.o.size);have QU:aI (· =o) w5 (w5.setCell ⟨o,0,none⟩ (.slice A5 (acc.length+(x.t - x.f)) c5)):=aI.at w5 o 0 _;have OZ: ∀ k,k<base→k≠o→(w5.setCell ⟨o,0,none⟩ (.slice A5 (acc.length+(x.t - x.f)) c5)).heap[k]? =w1.heap[k]?:=fun k hk hne=>by
   have yU:k<w1.heap.size:=aW hk (aT H.o.Xd Zg.o.size);refine(QU.block k (aW yU wH.o.size) hne).trans (wH.o.block k yU fun e=>?_);have:=pO sN.o k e.symm;omega
  have V6: ∀ k,w.heap.size≤k→¬S k:=fun k hk hs=>Nat.lt_irrefl _ (aW (HO.o.hS k hs) hk)
  have hz:w1.heap.size≤(w5.setCell ⟨o,0,none⟩ (.slice A5 (acc.length+(x.t - x.f)) c5)).heap.size:=aT wH.o.size QU.size;have hwb:=HO.o.ho;have hTf:aI S w (w5.setCell ⟨o,0,none⟩ (.slice A5 (acc.length+(x.t - x.f)) c5)):=by
   refine⟨QU.os.trans (wH.o.os.trans jq.o.os),QU.tape.trans (wH.o.tape.trans jq.o.tape),QU.output.trans (wH.o.output.trans jq.o.output),aT jq.o.size hz,fun k hk hs=>?_⟩;exact(OZ k aj aj).trans (jq.o.block k hk hs)
  refine⟨⟨(OZ r (by have:=HO.o.hr;omega) (by have:=HO.o.hr;omega)).trans ((Zg.o.block r (by have:=HO.o.hr;have:=H.o.cO.size;omega) HO.o.hr.2).trans H.o.rg.own),H.o.rg.size,H.o.rg.count⟩,?_,aT H.o.Xd (aT Zg.o.size hz),⟨d',acc++(b.take x.t).drop x.f,.slice A5 (acc.length+(x.t - x.f)) c5,?_,?_,?_,?_,?_,?_,?_⟩,fun y hy=>H.o.pcs y (gv _ hy),hTf⟩
  ·refine(eO (a:=⟨bx,0,none⟩) ((OZ bx HO.o.mh.2 (Ne.symm hwb.2.2)).trans (Zg.o.block bx (aW HO.o.mh.2 H.o.Xd) (V6 bx HO.o.mh.1)))).trans H.o.box
  ·refine(aD p d').same Ni.o hz fun k hk=>OZ k ?_ ?_
   ·have:=HO.o.hS k hk;omega
   have:=HO.o.hS k hk;omega
  ·rw[RN.o];exact HDK.o
  ·rw[RN.o];exact mi.o
  ·have:=(((show aG w1.drew o 34 #[v] from Zg.o.arr HV.o (V6 _ HO.o.ho.1)).bw wH.o (fun e=>by have:=pO sN.o o e;omega)).put 0 (.slice A5 (acc.length+(x.t - x.f)) c5));simpa using this
  ·rw[ed,List.length_append,Yr.o];refine dY EC.o fun k hk=>QU.block k ?_ ?_
   ·exact(dM EC.o hk).1
   have:=pO EC.o k hk;omega
  ·exact ale.o
  have:=HT.o;rw[Qe] at this;rw[List.length_append,Yr.o];omega
 ·have hq:(er==0)=false:=by simp[h0]
  have HF:=aa (show ∃ WT:Int,WT≠0∧Ending.returned (.int .i64 er)= .returned (.int .i64 WT)∧RdE S w p R WT w1 from⟨er,h0,rfl,d',by rw[HST.o,if_neg h0],Ni.o,jq.o⟩);clear HST EG h0;go_wp2_with fail;go_ret;exact .inr HF.o
theorem fT.Oy{g:Rg}(h:fT w r p g size): g.from_≤65536:=by have:=h.count;omega
theorem Kd{S:Nat→Prop}{g:Rg}{d:bK}(h:fT w r p g d.dk.size)(hD:dF p d S w)(hr: ¬S r)(at_ n:Nat)(hat:at_≤268435456)(hn:n≤268435456):
  Calls af 335 #[.pointer (some ⟨r,0,none⟩),.int .i64 at_,.int .i64 n] w (PRd S p (g.read d at_ n) w):=by
 have hS: ∀ k,S k→k<w.heap.size:=(aD p d).lt hD;have hdk:d.dk.Ok:=Tz;have HD:=aa hD;have HH:=aa h;have HR:=aa hr;have HS:=aa hS;have HDK:=aa hdk;clear hD hS hdk hr;cases nN:g.bad d.dk.size at_ n with
 | true=>
  have hres:g.read d at_ n=(2,[],d):=by unfold Rg.read;rw[if_pos nN]
  rw[hres];clear hres;have Gw:=aa nN;clear nN h;go_enter Tryz.func335,Tryz.ntmps335;go_wp2_with fail;obtain⟨bx,mh⟩:=ae w.heap.size;obtain⟨w1,aZ⟩:=ae (w.alloc (.cells #[.pointer (some ⟨r,0,none⟩)] 44));have hb1:=aL aZ;have ha1:=aK aZ mh;rw[aZ,mh];have x1:=ha1.cl 0;have kX:=HH.o.ai hb1;have y1:w1.cell? ⟨r,0,none⟩=some (.pointer (some ⟨p,0,none⟩)):=kX.own.cell 0;have bz:=aa hb1;have dz:=aa ha1;have Py:=aa kX;have yr:=aa mh;clear hb1 ha1 kX mh aZ;refine ag (nW r p w1 y1) ?_;go_wp2_with fail;refine(wj Py.o at_ n hat hn).mono ?_;rintro e w2 ⟨rfl,hb2⟩;rw[Gw.o];have x2:w2.cell? ⟨bx,0,none⟩=some (.pointer (some ⟨r,0,none⟩)):=(hb2.cell (p:=⟨bx,0,none⟩) (bD _ _ x1)).trans x1;have cu:=aa (show Below w.heap.size w w2 from av bz.o hb2);have iZ:=aa (show aG w2 bx 44 #[.pointer (some ⟨r,0,none⟩)] from dz.o.ai hb2);clear hb2;go_wp2_with fail;go_ret2;exact⟨⟨none,0,rfl,fun h=>absurd rfl h,aQ _⟩,(aD p d).ak HD.o cu.o,aI.aU cu.o⟩
 | false=>
  have hres:g.read d at_ n=Hs g d (pieces d.dk.size n at_ n) []:=by unfold Rg.read;rw[if_neg (by rw[nN];simp),Int.toNat_natCast,Int.toNat_natCast]
  rw[hres];clear hres;have Gw:=aa nN;clear nN h;go_enter Tryz.func335,Tryz.ntmps335;go_wp2_with fail;obtain⟨bx,mh⟩:=ae w.heap.size;obtain⟨w1,aZ⟩:=ae (w.alloc (.cells #[.pointer (some ⟨r,0,none⟩)] 44));have hb1:=aL aZ;have ha1:=aK aZ mh;rw[aZ,mh];have x1:=ha1.cl 0;have kX:=HH.o.ai hb1;have y1:w1.cell? ⟨r,0,none⟩=some (.pointer (some ⟨p,0,none⟩)):=kX.own.cell 0;have bz:=aa hb1;have dz:=aa ha1;have Py:=aa kX;have yr:=aa mh;clear hb1 ha1 kX mh aZ;refine ag (nW r p w1 y1) ?_;go_wp2_with fail;refine(wj Py.o at_ n hat hn).mono ?_;rintro e w2 ⟨rfl,hb2⟩;rw[Gw.o];have x2:w2.cell? ⟨bx,0,none⟩=some (.pointer (some ⟨r,0,none⟩)):=(hb2.cell (p:=⟨bx,0,none⟩) (bD _ _ x1)).trans x1;have cu:=aa (show Below w.heap.size w w2 from av bz.o hb2);have iZ:=aa (show aG w2 bx 44 #[.pointer (some ⟨r,0,none⟩)] from dz.o.ai hb2);clear hb2;obtain⟨w3,hw3⟩:=ae (w2.alloc (.cells #[.slice none 0 0] 34));obtain⟨o,ho⟩:=ae w2.heap.size;have hb3:=aL hw3;have z3:(w2.alloc (.cells #[.slice none 0 0] 34)).cell? ⟨bx,0,none⟩=some (.pointer (some ⟨r,0,none⟩)):=by rw[hw3];exact(hb3.cell (p:=⟨bx,0,none⟩) (bD _ _ x2)).trans x2
  have HZ3:=aa z3;have hO3:=aK hw3 ho;have hI:RdI S w w3.heap.size bx o r p d.dk.size g (Hs g d (pieces d.dk.size n at_ n) []) (pieces d.dk.size n at_ n) w3:=by
   have hb:Below w.heap.size w w3:=av cu.o hb3;refine⟨HH.o.ai hb,(hb3.cell (p:=⟨bx,0,none⟩) (bD _ _ x2)).trans x2,aQ _,⟨d,[],.slice none 0 0,(aD p d).ak HD.o hb,HDK.o,rfl,hO3,World.ownsRow_nil _ _ _ _,rfl,?_⟩,pM _ HDK.o.size.1 _ _ _ (aQ _),aI.aU hb⟩;rw[nI _ HDK.o.size.1 _ _ _ (aQ _)];simpa using hn
  have hRO:RdO S w w3.heap.size bx o r:=by
   have h1:=cu.o.size;have h2:o<w3.heap.size:=hO3.lt;have h3:bx<o:=by rw[←ho];exact bD _ _ x2
   have h4:=yr.o;exact⟨⟨aj,aj⟩,⟨aj,h2,aj⟩,⟨HH.o.own.lt,HR.o⟩,HS.o⟩
  have HI:=aa hI;have HRO:=aa hRO;have M5:=aa hw3;have HOO:=aa ho;clear hb3 hO3 hI hRO hw3;go_wp2_with fail;rw[M5.o];refine(Rc w3 #[.pointer (some ⟨bx,0,none⟩),.pointer (some ⟨o,0,none⟩)] at_ n (RdI S w w3.heap.size bx o r p d.dk.size g (Hs g d (pieces d.dk.size n at_ n) [])) (RdE S w p (Hs g d (pieces d.dk.size n at_ n) [])) HDK.o.size HH.o.Oy ?_ (fun ps W h=>h.rg) (fun x ps W h=>aev HRO.o h) HI.o).mono ?_
  ·have:=Gw.o;unfold Rg.bad at this;have hbl:=HH.o.eQ;simp only[Bool.or_eq_false_iff,decide_eq_false_iff_not] at this;omega
  rintro e w4 hor;rcases hor with⟨rfl,h4⟩|⟨er,o7,rfl,h4⟩
  ·obtain⟨d',acc,v,hD4,_,_,hv4,Jz,JP,_⟩:=h4.body;have mj:=aa JP;obtain⟨A4,c4,rfl⟩:=cy Jz;have y4:w4.cell? ⟨o,0,none⟩=some (.slice A4 acc.length c4):=hv4.cell 0;have HF:=aa (show PRd S p (0,acc,d') w (.returned (.tuple #[.slice A4 acc.length c4,.int .i64 0])) w4 from by
    refine⟨⟨A4,c4,rfl,fun hne=>?_,?_⟩,hD4,h4.cO⟩
    ·rcases Jz.2 with⟨e0,e1⟩|⟨g4,cap,cur,e0,e1,e2,e3,e4,e5,e6⟩
     ·exact absurd (List.eq_nil_of_length_eq_zero e1) hne
     injection e0 with e0 _ e7
     subst e0 e7;have cL:=mV Jz rfl;exact⟨g4,rfl,aT (aT HRO.o.ho.1 (Nat.le_of_lt HRO.o.ho.2.1)) cL.2.2.1,cL.1⟩
    rcases Jz.2 with⟨e0,e1⟩|⟨g4,cap,cur,e0,e1,e2,e3,e4,e5,e6⟩
    ·show acc.length≤c4;omega
    injection e0 with e0 _ e7
    subst e0 e7;exact e3)
   clear h4 hD4 hv4 Jz JP HI;go_wp2_with fail;go_ret2;rw[mj.o];exact HF.o
  obtain⟨d',JP,hD4,jJ⟩:=h4;have mj:=aa JP;have hq:(er==0)=false:=xu;have HF:=aa (show PRd S p (er,[],d') w (.returned (.tuple #[.slice none 0 0,.int .i64 er])) w4 from⟨⟨none,0,rfl,fun h=>absurd rfl h,aQ _⟩,hD4,jJ⟩);clear JP hD4 jJ HI o7;go_wp2_with fail;go_ret2;rw[mj.o];exact HF.o
end En
end
section
namespace Rf
open En (yj B3 pL)
theorem aa9(n s:Nat)(hn:1≤n∧n≤65536)(hs:s=64∨s=128)(w:World): Calls af 226 #[.int .i64 n,.int .i64 s] w fun e w'=>e= .returned (.bool true)∧Below w.heap.size w w':=by
 have h1:(1:Int)≤(n:Int):=aj;have h2:(n:Int)≤65536:=aj;have e1:aX bh aO 64 63=0:=aN;have e2:aX bh aO 128 127=0:=aN;rcases hs with rfl|rfl
 ·go_enter Tryz.func226,Tryz.ntmps226;exact Vu
 go_enter Tryz.func226,Tryz.ntmps226;exact Vr
structure RU(w wr:World)(p s k:Nat)(v:Value)(ad cp:Nat→Nat): Prop where
 own:aG wr p 335 #[v,.slice none 0 0]
 row:aM (fun g=>w.heap.size≤g) wr 34 1 v k (fun i=>[.slice (some ⟨ad i,0,none⟩) s (cp i)])
 each: ∀ i,i<k→jN wr 5 (ad i) (dW s 0)∧s≤cp i∧w.heap.size≤ad i
 alone: ∀ i j,i<k→j<k→ad i=ad j→i=j
 ak:Below w.heap.size w wr
 news:w.heap.size≤p
def adN(n s:Nat)(w:World)(e:Ending)(w':World): Prop:=∃ p v ad cp,e= .returned (.tuple #[.pointer (some ⟨p,0,none⟩),.int .i64 0])∧RU w w' p s n v ad cp
theorem aa7(n s:Nat)(hn:1≤n∧n≤65536)(hs:s=64∨s=128)(w:World): Calls af 116 #[.int .i64 n,.int .i64 s] w (adN n s w):=by
 obtain⟨i0,CT,hz0,hz1,hz2⟩:=info_parts Oc.eY;obtain⟨j0,Y7,hy0,hy1,YY⟩:=info_parts pL;have HM:=aa (aa9 n s hn hs);have tu:(n:Int)≤65536:=aj;have hs0:(0:Int)≤(s:Int):=aj;have hs1:(s:Int)≤128:=by rcases hs with rfl|rfl <;>simp
 have HN:=aa hn;have HS:=aa hs;have Zj:=aa (show 0<s by rcases hs with rfl|rfl <;>decide);clear hs hn;obtain⟨p,hp⟩:=ae w.heap.size;obtain⟨w1,aZ⟩:=ae (w.alloc (.cells #[.slice none 0 0,.slice none 0 0] 335));have dz:=aa (aK aZ hp);have Kt:=aa (aL aZ);have HP:=aa (show w.heap.size≤p from aj);go_enter Tryz.func116,Tryz.ntmps116;go_wp2_with fail;refine(HM.o w1).mono ?_;rintro e w2 ⟨rfl,hb2⟩;have hst:RU w w2 p s 0 (.slice none 0 0) (fun _=>0) (fun _=>0):=
  ⟨dz.o.ai hb2,aM.nil _ _ _ _ _,fun i hi=>absurd hi (kP i),fun i j hi=>absurd hi (kP i),av Kt.o hb2,HP.o⟩
 have HST:=aa hst;clear hb2 HM hst aZ hp dz Kt HP;go_wp2_with fail;go_loopw [7] (fun i wr=>∃ (k:Nat) (v:Value) (ad cp:Nat→Nat),k≤n∧i= .int .i64 k∧RU w wr p s k v ad cp) (fun i _=>(n - intOf i).toNat)
 case atStart=>exact⟨0,_,_,_,aj,rfl,HST.o⟩
 case round=>
  obtain⟨k,v,ad,cp,hk,rfl,hI⟩:=hrel;have HI:=aa hI;clear hI HST;by_cases h:k<n
  ·have h':(k:Int)<(n:Int):=by omega
   have x1:wr.cell? ⟨p,0,none⟩=some v:=HI.o.own.cell 0;go_wp2_with fail;refine dI br ?_;refine bj.any (S:=(fun w'=>w'.cell? ⟨p,0,none⟩=some v)) (t:=11) _ _ _ _ ?_;have hHeld:=(show(fun w'=>w'.cell? ⟨p,0,none⟩=some v) wr.drew from x1);refine tt 0 ?_;refine tt 1 ?_;refine tt 2 ?_;refine tt 3 ?_;refine tt 4 ?_;refine tt 5 ?_;refine bj.step (i:=6) br br rfl (fun K hK=>?_);rw[if_pos im];refine mR _ (.tmp 25) (.tmp 25) 34 rfl 5 i0 (.int .u8 0) 1 fL CT hz0 hz1 rfl aN s rfl rfl AY km ?_;intro w4 hr4 hg4;have Mx:Below wr.heap.size wr w4:=Below.grown (az (au _ _)) hg4 (aQ _) dR;have x4:w4.cell? ⟨p,0,none⟩=some v:=(Mx.cell (p:=⟨p,0,none⟩) HI.o.own.lt).trans x1;have hz4:wr.heap.size<w4.heap.size:=abK;have mj:=aa hr4;have gH:=aa Mx;have HZ4:=aa hz4;clear hr4 hg4 Mx hz4;refine hK.out _ _ DB (fun qB=>?_);clear hK K;try simp only[aY]
   refine bj.step (i:=7) br br rfl (fun K hK=>?_);have dX:Below wr.heap.size wr (w4.alloc (.cells #[.slice (some ⟨wr.heap.size,0,none⟩) s s] 34)):=ax gH.o _;have x5:(w4.alloc (.cells #[.slice (some ⟨wr.heap.size,0,none⟩) s s] 34)).cell? ⟨p,0,none⟩=some v:=(dX.cell (p:=⟨p,0,none⟩) HI.o.own.lt).trans x1;have eA:=aa dX;clear dX;go_simp;go_wp2_with fail;refine hK.out _ _ DB (fun o9=>?_);clear hK K;try simp only[aY]
   refine bj.step (i:=8) br br rfl (fun K hK=>?_);rw[if_pos im];refine fp _ (.tmp 24) (.tmp 27) 33 rfl 34 j0 (.slice none 0 0) 1 24 Tryz.underlying33 Y7 hy0 hy1 YY rfl aN v k (fun i=>[.slice (some ⟨ad i,0,none⟩) s (cp i)]) rfl (HI.o.row.ai eA.o) ⟨w4.heap.size,0,none⟩ 1 [.slice (some ⟨wr.heap.size,0,none⟩) s s] rfl rfl (iN w4 _ _) Fg km aj ?_;intro ga ca w6 CP kq;have OU:=eA.o.size;have R7: ∀ {g:Nat} {o:Obj},wr.heap[g]? =some o→(∀ c,o≠ .cells c 34 (0,0))→w6.heap[g]? =wr.heap[g]?:=fun {g o} ho hne=>by
    exact VC
   have zR:aG w6 p 335 #[v,.slice none 0 0]:=(R7 HI.o.own (fun c e=>yH)).trans HI.o.own;have he6: ∀ i,i<k→jN w6 5 (ad i) (dW s 0):=fun i hi=>(HI.o.each i hi).1.same abH
   have hn6:jN w6 5 wr.heap.size (dW s 0):=by
    exact acC
   have Wr:Below w.heap.size w w6:=(av HI.o.ak eA.o).grown kq Tu (fun g e=>HI.o.row.block g e);have m6:=zR.mark 0;have z6:=zR.cl 0;have zQ:p≠ga:=CP.rZ rfl zR (fun c e=>yH);have HR6:=aa CP;have Nb:=aa zR;have HE6:=aa he6;have KU:=aa hn6;have ij:=aa Wr;have HPG:=aa zQ;clear CP kq R7 zR he6 hn6 Wr zQ OU;refine hK.out _ _ DB (fun qA=>?_);clear hK K;try simp only[aY]
   refine tp 9 ?_;refine tt 10 ?_;refine bj.last br ?_;refine kB 11 br br ?_;simp only[tI,Hb];have hf:RU w (w6.setCell ⟨p,0,none⟩ (.slice (some ⟨ga,0,none⟩) (k+1) ca)) p s (k+1) (.slice (some ⟨ga,0,none⟩) (k+1) ca) (cH ad k wr.heap.size) (cH cp k s):=by
    have hpw:w.heap.size≤p:=HI.o.news;have hsc: ∀ g,g≠p→(w6.setCell ⟨p,0,none⟩ (.slice (some ⟨ga,0,none⟩) (k+1) ca)).heap[g]? =w6.heap[g]?:=fun g hg=>dH w6 ⟨p,0,none⟩ _ g hg
    have aaq: ∀ {g:Nat},jN w6 5 g (dW s 0)→g≠p:=fun {g} hb e=>by
     obtain⟨cur,hc,_⟩:=hb;have h2:=Nb.o;rw[aG,←e,hc] at h2;injection h2 with h2
     injection h2 with _ h3
     revert h3;decide
    have hwr:w.heap.size≤wr.heap.size:=HI.o.ak.size;refine⟨by simpa using Nb.o.put 0 (.slice (some ⟨ga,0,none⟩) (k+1) ca),?_,fun i hi=>?_,fun i j hi hj he=>?_,eF ij.o hpw _,HI.o.news⟩
    ·have h1:=(HR6.o.mono (T:=fun g=>w.heap.size≤g) (fun g hg _=>by
      rcases hg with hg|hg
      ·exact hg
      have:=eA.o.size;omega)).OM (hsc ga (Ne.symm HPG.o))
     exact acA
    ·by_cases e:i=k
     ·subst e;rw[bM,bM];exact⟨KU.o.same (hsc _ (aaq KU.o)),aQ _,hwr⟩
     exact ab3
    exact acE
   exact ace
  have h': ¬(k:Int)<(n:Int):=aj;have Ms:k=n:=aj;have hd:=HI.o;rw[Ms] at hd;have HF:=aa (show adN n s w (.returned (.tuple #[.pointer (some ⟨p,0,none⟩),.int .i64 0])) wr from⟨p,_,_,_,rfl,hd⟩);clear hd Ms;go_wp2_with fail;go_ret2;exact HF.o
