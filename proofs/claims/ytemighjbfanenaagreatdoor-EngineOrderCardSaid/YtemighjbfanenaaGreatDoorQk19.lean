import Derived.Test.YtemighjbfanenaaGreatDoorQk18
set_option linter.all false
set_option maxRecDepth 100000
set_option maxHeartbeats 16000000
namespace Go.Proofs.YtemighjbfanenaaGreatDoor
open RowKit
open Oc (Bs gl fG aO dX bu bO qV eT cM mW e8)
open En (By)
open Go renaming bits→aX
open Go.BinOp renaming and→bl
open Go.IntKind renaming i64→aN
open Go.Proofs.Tryz renaming prog→af,underlying34→fM
open Go.World renaming block_lt_of_cell?→bE,cell?_of_block→eQ
open Int renaming natCast_add→PQ,tdiv_eq_ediv_of_nonneg→abw,tmod_eq_emod_of_nonneg→abv
open List renaming drop_succ_cons→tD,replicate→dT,drop_zero→GQ,getD_eq_getElem?_getD→bR,mem_cons_of_mem→gz,length_replicate→kQ
open Nat renaming not_lt_zero→gw,le_trans→aV,lt_of_lt_of_le→aU,le_refl→aY
open RowKit.Below renaming heap_setCell→dJ,refl→ar
open _root_.Array renaming getElem?_eq_some_iff→eL
theorem acM{p:Prop}(h:p:=by
 have HI:=aa hI;have HF:=aa hf;have H0:=aa h0;have hn':(at_:Int)+(n:Int)≤268435456:=ai;have hs1:(1:Int)≤(size:Int):=ai;have hs2:(size:Int)≤4096:=ai;have VL:((size:Int)==0)=false:=mQ;clear hI hf h0;go_enter Tryz.func328,Tryz.ntmps328;go_wp2_with fail;go_loopw [1] (fun a wr=>∃ b m k:Nat,m≤k∧b+m=at_+n∧a= .int .i64 b∧I (pieces size k b m) wr) (fun a _=>(at_+n - intOf a).toNat)
 case atStart=>exact⟨at_,n,n,aY _,rfl,rfl,H0.o⟩
 case round=>
  obtain⟨b,m,k,hmk,hbm,rfl,hP⟩:=hrel;have HP:=aa hP;clear hP;rcases Nat.eq_zero_or_pos m with hm0|hm0
  ·subst hm0;have hlt: ¬(b:Int)<(at_:Int)+(n:Int):=ai;have FK: ¬b<at_+n:=ai;have lH:I [] wr:=by
    have:=HP.o;cases k with
    | zero=>exact this
    | succ k=>rwa [pieces,if_pos rfl] at this
   have HFN:=aa lH;clear lH;go_wp2_with fail;go_ret;exact .inl ⟨rfl,HFN.o⟩
  obtain⟨k,rfl⟩: ∃ k',k=k'+1:=⟨k - 1,ai⟩;obtain⟨s,f,t,d,e1,e2,e3,e4,Y2,hts,Wf,hdm,ahg,hps⟩:=uE size k b m hsz.1 hm0 hmk;rw[hps] at HP;have hR:=HI.o _ _ HP.o;have x1:wr.cell? ⟨r,1,none⟩=some (.int .i64 g.from_):=hR.own.cell 1;have x3:wr.cell? ⟨r,3,none⟩=some (.int .i64 size):=hR.own.cell 3;have hlt:(b:Int)<(at_:Int)+(n:Int):=ai;have q1:(b:Int).tdiv (size:Int)=(s:Int):=by rw[abw ai,←e1];simp
  have q2:(b:Int).tmod (size:Int)=(f:Int):=by rw[abv ai,←e2];simp
  have q1':(b:Int) / (size:Int)=(s:Int):=by rw[←e1];simp
  have q2':(b:Int) % (size:Int)=(f:Int):=by rw[←e2];simp
  have hb0:(0:Int)≤(b:Int):=ai;have kU:s≤b:=by rw[←e1];exact Nat.div_le_self _ _
  have al7:(s:Int)≤(b:Int):=ai;have lS:(f:Int)<(size:Int):=ai;have hg':(g.from_:Int)≤65536:=ai;clear hR;by_cases hc:f+m<size
  ·have htm:t=f+m:=by omega
   have e5:(f:Int)+((at_:Int)+(n:Int)) - (b:Int)=(t:Int):=ai;have akk:(t:Int)<(size:Int):=ai;clear hc;go_wp2_with fail;have HG:=HF.o ⟨s,f,t⟩ _ wr HP.o;simp only[htm,PQ] at HG;refine HG.mono ?_;clear HG;rintro e w1 hor;rcases hor with⟨rfl,kV⟩|⟨er,o6,rfl,hE1⟩
   ·have wK:=aa kV;clear kV;go_wp2_with fail;go_roundw
    case rel=>exact⟨b+d,m - d,k,ahg,ai,by go_num,wK.o⟩
    case measure=>simp[intOf];omega
   have hq:(er==0)=false:=wY;have vp:=aa hE1;have HER:=aa o6;clear hE1 o6;go_wp2_with fail;go_ret;exact .inr ⟨er,HER.o,rfl,vp.o⟩
  have htm:t=size:=ai;have akk: ¬(f:Int)+((at_:Int)+(n:Int)) - (b:Int)<(size:Int):=ai;clear hc;subst htm;go_wp2_with fail;have HG:=HF.o ⟨s,f,t⟩ _ wr HP.o;simp only[PQ] at HG;refine HG.mono ?_;clear HG;rintro e w1 hor;rcases hor with⟨rfl,kV⟩|⟨er,o6,rfl,hE1⟩
  ·have wK:=aa kV;clear kV;go_wp2_with fail;go_roundw
   case rel=>exact⟨b+d,m - d,k,ahg,ai,by go_num,wK.o⟩
   case measure=>simp[intOf];omega
  have hq:(er==0)=false:=wY;have vp:=aa hE1;have HER:=aa o6;clear hE1 o6;go_wp2_with fail;go_ret;exact .inr ⟨er,HER.o,rfl,vp.o⟩):p:=h
theorem IH{p:Prop}(h:p:=by
 rintro e w1 ⟨rfl,hw⟩;have HW:=aa hw;clear hw;go_wp2_with fail;go_ret;exact⟨rfl,HW.o⟩):p:=h
theorem acu{p:Prop}(h:p:=by
 have hlt: ∀ i,i<k→ad i<wr.heap.size:=fun i hi=>(HI.o.each i hi).1.lt
 by_cases e1:i=k <;>by_cases e2:j=k
 ·omega
 ·subst e1;rw[bL,bn _ _ e2] at he;have:=hlt j ai;omega
 ·subst e2;rw[bL,bn _ _ e1] at he;have:=hlt i ai;omega
 rw[bn _ _ e1,bn _ _ e2] at he;exact HI.o.alone i j ai ai he):p:=h
theorem acr{p:Prop}(h:p:=by
 have ho4:=nV.o.own;have hb4:jO w4 5 wr.heap.size (dT s 0):=(Oc.mW (bs:=dT s 0) adW (kQ)).1;obtain⟨cur,hc,zy⟩:=hb4;refine⟨cur,(kr.block _ (by have:=HZ4.o;simp;omega) (fun e=>?_)).trans ((Below.heap_alloc w4 _ _ HZ4.o).trans hc),zy⟩;have hlt:=(eP HI.o.row.own e.symm).1;omega):p:=h
theorem acp{p:Prop}(h:p:=by
 refine⟨?_,h1.block⟩;have h2:=h1.own;rw[lJ (d:=fun i=>[.slice (some ⟨cK ad k wr.heap.size i,0,none⟩) s (cK cp k s i)]) (fun i hi=>?_)] at h2
 ·exact h2
 by_cases e:i=k
 ·subst e;rw[bL,bL,bL]
 rw[bn _ _ e,bn _ _ e,bn _ _ e]):p:=h
theorem acn{p:Prop}(h:p:=by
 go_wp2_with fail;refine HM.o.mono ?_;rintro e w1 ho;obtain⟨he,hd,ht⟩:=pR HH.o ho;rw[Zi.o] at he;subst he;have HF:=aa (show dB p d.op.2 (Gr S w w1) w1∧aI S w w1 from⟨(HL.o _).Ac ⟨kp,SK,hd⟩ HS.o ht.size,ht⟩);clear ho hd ht;go_wp2_with fail;go_ret;exact⟨rfl,HF.o⟩):p:=h
theorem UT{p:Prop}(h:p:=by
 go_wp2_with fail;refine ag (B1 p kp w x0) ?_;go_wp2_with fail;refine ag HS.o ?_;go_wp2_with fail;go_ret;exact⟨rfl,rfl⟩):p:=h
theorem acd{p:Prop}(h:p:=by
 have HF:=aa hf;have HC:=aa hc1;clear h hd ho hf hc1;go_enter Tryz.func121,Tryz.ntmps121;go_wp2_with fail;refine ag (B1 p kp w x0) ?_;go_wp2_with fail;go_ret;exact HF.o _ (by rw[←HC.o,age])):p:=h
theorem ab4{p:Prop}(h:p:=by
 have HF:=aa hf;clear hf;go_wp2_with fail;go_roundw
 case rel=>exact⟨k+1,_,_,_,ai,by go_num,HF.o⟩
 case measure=>simp[intOf];omega):p:=h
theorem abW{p:Prop}(h:p:=by
 go_enter Tryz.func121,Tryz.ntmps121;go_wp2_with fail;refine ag (B1 p kp w x0) ?_;go_wp2_with fail;go_ret;exact HF.o):p:=h
theorem abU{p:Prop}(h:p:=by
 rw[bn _ _ e,bn _ _ e];have hb:=HE6.o i ai;exact⟨hb.same (hsc _ (aaj hb)),(HI.o.each i ai).2⟩):p:=h
theorem Vq{p:Prop}(h:p:=by
 have pU:=(eL.1 ho).1;exact(kr.block g ai (fun e=>HI.o.row.rY e.symm ho hne rfl)).trans (eu.o.block g pU)):p:=h
theorem Vj{p:Prop}(h:p:=by
 go_wp2_with fail;go_ret;exact⟨ky (a:=decide ((n:Int)*64≤67108864)) (decide_eq_true ai),ar _ _⟩):p:=h
theorem Vg{p:Prop}(h:p:=by
 go_wp2_with fail;go_ret;exact⟨ky (a:=decide ((n:Int)*128≤67108864)) (decide_eq_true ai),ar _ _⟩):p:=h
theorem Vb{p:Prop}(h:p:=by
 go_wp2_with fail;go_quiet (fail);go_wp2_with fail;go_ret;exact⟨rfl,aQ (ar _ _) _⟩):p:=h
theorem mQ{p:Prop}(h:p:=by rw[beq_eq_false_iff_ne];omega):p:=h
theorem abE{p:Prop}(h:p:=by obtain⟨g,cap,e,he,_,_,hlt⟩:=hr4.form HS0.o;injection e with e;injection e with e;have e2:g=wr.heap.size:=he;omega):p:=h
theorem abB{p:Prop}(h:p:=by obtain⟨cur,hc,_⟩:=(HI.o.each i hi).1;exact RS hc (fun c e=>by injection e with _ e2;revert e2;decide)):p:=h
theorem Dl{p:Prop}(h:p:=by first|exact x4|exact x5|exact z6):p:=h
theorem EY{p:Prop}(h:p:=by intro u hu;simp at hu;subst hu;rfl):p:=h
theorem adW{p:Prop}(h:p:=by rw[xX];have:=ho4;rw[BG] at this;exact this):p:=h
theorem Tp{p:Prop}(h:p:=by obtain⟨kp,SK,h1⟩:=hD;obtain⟨q,h2⟩:=h1.BI;exact h2.ok):p:=h
theorem Tk{p:Prop}(h:p:=by have:=(av HI.o.ak eu.o).size;exact this):p:=h
theorem wY{p:Prop}(h:p:=by simp[o6]):p:=h
theorem EK{p:Prop}(h:p:=by rw[←hd];exact h.cell 1):p:=h
theorem wW{p:Prop}(h:p:=by simpa using h1):p:=h
section
namespace En
theorem Fz(n s:Nat)(hn:1≤n∧n≤65536)(hs:s=64∨s=128)(w:World): Calls af 224 #[.int .i64 n,.int .i64 s] w fun e w'=>e= .returned (.bool true)∧Below w.heap.size w w':=by
 have h1:(1:Int)≤(n:Int):=ai;have h2:(n:Int)≤65536:=ai;have e1:aX bl aN 64 63=0:=aM;have e2:aX bl aN 128 127=0:=aM;rcases hs with rfl|rfl
 ·go_enter Tryz.func224,Tryz.ntmps224;exact Vj
 go_enter Tryz.func224,Tryz.ntmps224;exact Vg
def Jz(n s:Nat): Dk:=⟨s,dT n (dT s 0),[]⟩
def af7(n s:Nat)(w:World)(e:Ending)(w':World): Prop:=∃ p S,e= .returned (.tuple #[.pointer (some ⟨p,0,none⟩),.int .i64 0])∧uW p (Jz n s) S w'∧(∀ k,S k→w.heap.size≤k)∧Below w.heap.size w w'
theorem pL: (af.info? 34).map (fun i=>(i.zero,i.size,i.bytes))=some (some (.slice none 0 0),1,24):=bh
theorem UF(s:Nat)(dh:List By)(q:Dg): od ⟨s,dh,[]⟩ q=fun _=>none:=by funext z;unfold od;split <;>rfl
structure XE(w wr:World)(p mb s k:Nat)(v:Value)(ad cp:Nat→Nat): Prop where
 own:aG wr p 331 #[.int .i64 s,v,.slice none 0 0,.map (some mb)]
 row:aP (fun g=>w.heap.size≤g) wr 34 1 v k (fun i=>[.slice (some ⟨ad i,0,none⟩) s (cp i)])
 each: ∀ i,i<k→jO wr 5 (ad i) (dT s 0)∧s≤cp i∧w.heap.size≤ad i
 alone: ∀ i j,i<k→j<k→ad i=ad j→i=j
 map:fB af 3 .i64 wr mb 0 (fun _=>none)
 ak:Below w.heap.size w wr
 news:w.heap.size≤p∧w.heap.size≤mb
theorem XE.done{w wr:World}{p mb s n:Nat}{v:Value}{ad cp:Nat→Nat}(h:XE w wr p mb s n v ad cp)(hn:1≤n∧n≤65536)(hs:1≤s∧s≤4096): uW p (Jz n s) (fun k=>w.heap.size≤k∧k<wr.heap.size) wr:=by
 obtain⟨gd,cd,rfl,_,_,_,pU⟩:=h.row.form ai;have hl:(Jz n s).dh.length=n:=kQ;have hg: ∀ i,i<n→(Jz n s).dh.getD i []=dT s 0:=fun i hi=>by unfold Jz;simp only;rw[bR,List.getElem?_replicate,if_pos hi];rfl
 refine⟨⟨gd,cd,ad,cp,.slice none 0 0,mb,0,fun _=>0,fun _=>0⟩,?_,?_,fun i hi=>?_,aP.nil _ _ _ _ _,fun i hi=>absurd hi (gw i),?_,⟨hs,by rw[hl];exact hn,fun b hb=>?_,fun x hx=>by cases hx⟩,⟨⟨h.news.1,h.own.lt⟩,⟨h.news.2,h.map.lt⟩,fun i hi=>?_,fun i hi=>absurd hi (gw i)⟩,⟨fun i j hi hj=>?_,fun i j _ hj=>absurd hj (gw j)⟩,fun k hk=>hk.2,aY _⟩
 ·show aG wr p _ #[.int .i64 s,.slice (some ⟨gd,0,none⟩) (Jz n s).dh.length cd,.slice none 0 0,.map (some mb)]
  rw[hl];exact h.own
 ·show aP _ wr _ 1 (.slice (some ⟨gd,0,none⟩) (Jz n s).dh.length cd) (Jz n s).dh.length _
  rw[hl];exact h.row.mono fun g hg hg2=>⟨hg,hg2⟩
 ·rw[hl] at hi;rw[hg i hi];exact⟨(h.each i hi).1,(h.each i hi).2.1⟩
 ·rw[show od (Jz n s) _=fun _=>none from UF s _ _];exact h.map
 ·obtain rfl:=List.eq_of_mem_replicate hb;exact kQ
 ·rw[hl] at hi;exact⟨(h.each i hi).2.2,(h.each i hi).1.lt⟩
 rw[hl] at hi hj;exact h.alone i j hi hj
theorem xX(s:Nat): aO (dT s 0)=dT s (.int .u8 0):=by unfold aO;rw[List.map_replicate];rfl
theorem BG(s:Nat): flat (fun _=>(Value.int .u8 0).cells.toList) s=dT s (.int .u8 0):=by
 induction s with
 | zero=>rfl
 | succ s ih=>rw[flat,ih,List.replicate_succ'];rfl
theorem uQ(n s:Nat)(hn:1≤n∧n≤65536)(hs:s=64∨s=128)(w:World): Calls af 114 #[.int .i64 n,.int .i64 s] w (af7 n s w):=by
 obtain⟨i0,CB,hz0,hz1,hz2⟩:=info_parts Oc.e8;obtain⟨j0,OI,hy0,hy1,YU⟩:=info_parts pL;have HM:=aa (Fz n s hn hs);have VZ:=@run_makeMap af;have sZ:(n:Int)≤65536:=ai;have hs0:(0:Int)≤(s:Int):=ai;have hs1:(s:Int)≤128:=by rcases hs with rfl|rfl <;>simp
 have HN:=aa hn;have HS:=aa hs;have HS0:=aa (show 0<s by rcases hs with rfl|rfl <;>decide);clear hs hn;go_enter Tryz.func114,Tryz.ntmps114;go_wp2_with fail;refine(HM.o w).mono ?_;rintro e w1 ⟨rfl,hb1⟩;have bA:=aa hb1;clear hb1 HM;go_wp2_with fail;obtain⟨p,hp⟩:=ae (w1.heap.size+1);obtain⟨mb,Y0⟩:=ae w1.heap.size;obtain⟨w2,hw2⟩:=ae ((w1.alloc (.map #[] 0)).alloc (.cells #[.int .i64 s,.slice none 0 0,.slice none 0 0,.map (some w1.heap.size)] 331));have hst:XE w w2 p mb s 0 (.slice none 0 0) (fun _=>0) (fun _=>0):=by
  have hz:=bA.o.size;refine⟨?_,aP.nil _ _ _ _ _,fun i hi=>absurd hi (gw i),fun i j hi=>absurd hi (gw i),?_,?_,ai,ai⟩
  ·rw[←hw2,←Y0];exact aG.new fZ
  ·rw[←hw2,←Y0];exact(fB.made af _ _ w1).ah (ay (ar _ _) _)
  rw[←hw2];exact ay (ay bA.o _) _
 rw[hw2,hp];have HST:=aa hst;clear hst hw2 hp Y0 bA;go_loopw [16] (fun i wr=>∃ (k:Nat) (v:Value) (ad cp:Nat→Nat),k≤n∧i= .int .i64 k∧XE w wr p mb s k v ad cp) (fun i _=>(n - intOf i).toNat)
 case atStart=>exact⟨0,_,_,_,ai,rfl,HST.o⟩
 case round=>
  obtain⟨k,v,ad,cp,hk,rfl,hI⟩:=hrel;have HI:=aa hI;clear hI;by_cases h:k<n
  ·have h':(k:Int)<(n:Int):=by omega
   have x1:wr.cell? ⟨p,1,none⟩=some v:=HI.o.own.cell 1;go_wp2_with fail;refine dL bh ?_;refine bm.any (S:=(fun w'=>w'.cell? ⟨p,1,none⟩=some v)) (t:=11) _ _ _ _ ?_;have hHeld:=(show(fun w'=>w'.cell? ⟨p,1,none⟩=some v) wr.drew from x1);refine tt 0 ?_;refine tt 1 ?_;refine tt 2 ?_;refine tt 3 ?_;refine tt 4 ?_;refine tt 5 ?_;refine bm.step (i:=6) bh bh rfl (fun K hK=>?_);rw[if_pos iI];refine mS _ (.tmp 23) (.tmp 23) 34 rfl 5 i0 (.int .u8 0) 1 fM CB hz0 hz1 rfl aM s rfl rfl Az jR ?_;intro w4 hr4 hg4;have Mf:Below wr.heap.size wr w4:=Below.grown (az (ar _ _)) hg4 (aY _) dM;have x4:w4.cell? ⟨p,1,none⟩=some v:=(Mf.cell (p:=⟨p,1,none⟩) HI.o.own.lt).trans x1;have hz4:wr.heap.size<w4.heap.size:=abE;have nV:=aa hr4;have gj:=aa Mf;have HZ4:=aa hz4;clear hr4 hg4 Mf hz4;refine hK.out _ _ Dl (fun qw=>?_);clear hK K;try simp only[aZ]
   refine bm.step (i:=7) bh bh rfl (fun K hK=>?_);have dU:Below wr.heap.size wr (w4.alloc (.cells #[.slice (some ⟨wr.heap.size,0,none⟩) s s] 34)):=ay gj.o _;have x5:(w4.alloc (.cells #[.slice (some ⟨wr.heap.size,0,none⟩) s s] 34)).cell? ⟨p,1,none⟩=some v:=(dU.cell (p:=⟨p,1,none⟩) HI.o.own.lt).trans x1;have eu:=aa dU;clear dU;go_simp;go_wp2_with fail;refine hK.out _ _ Dl (fun o8=>?_);clear hK K;try simp only[aZ]
   refine bm.step (i:=8) bh bh rfl (fun K hK=>?_);rw[if_pos iI];refine fu _ (.tmp 22) (.tmp 25) 33 rfl 34 j0 (.slice none 0 0) 1 24 Tryz.underlying33 OI hy0 hy1 YU rfl aM v k (fun i=>[.slice (some ⟨ad i,0,none⟩) s (cp i)]) rfl (HI.o.row.ah eu.o) ⟨w4.heap.size,0,none⟩ 1 [.slice (some ⟨wr.heap.size,0,none⟩) s s] rfl rfl (iQ w4 _ _) EY jR ai ?_;intro ga ca w6 Cy kr;have OA:=eu.o.size;have RS: ∀ {g:Nat} {o:Obj},wr.heap[g]? =some o→(∀ c,o≠ .cells c 34 (0,0))→w6.heap[g]? =wr.heap[g]?:=fun {g o} ho hne=>by
    exact Vq
   have zw:aG w6 p 331 #[.int .i64 s,v,.slice none 0 0,.map (some mb)]:=(RS HI.o.own (fun c e=>yr)).trans HI.o.own;have CA:fB af 3 .i64 w6 mb 0 (fun _=>none):=HI.o.map.same (by obtain⟨es,c,hb⟩:=HI.o.map.obj;exact RS hb (fun c e=>uu));have he6: ∀ i,i<k→jO w6 5 (ad i) (dT s 0):=fun i hi=>(HI.o.each i hi).1.same abB
   have hn6:jO w6 5 wr.heap.size (dT s 0):=by
    exact acr
   have Wi:Below w.heap.size w w6:=(av HI.o.ak eu.o).grown kr Tk (fun g e=>HI.o.row.block g e);have m6:=zw.mark 1;have z6:=zw.cl 1;have zv:p≠ga:=Cy.rY rfl zw (fun c e=>yr);have HR6:=aa Cy;have MU:=aa zw;have HM6:=aa CA;have HE6:=aa he6;have KB:=aa hn6;have iL:=aa Wi;have HPG:=aa zv;clear Cy kr RS zw CA he6 hn6 Wi zv OA;refine hK.out _ _ Dl (fun qu=>?_);clear hK K;try simp only[aZ]
   refine tp 9 ?_;refine tt 10 ?_;refine bm.last bh ?_;refine kD 11 bh bh ?_;simp only[tD,GQ];have hf:XE w (w6.setCell ⟨p,1,none⟩ (.slice (some ⟨ga,0,none⟩) (k+1) ca)) p mb s (k+1) (.slice (some ⟨ga,0,none⟩) (k+1) ca) (cK ad k wr.heap.size) (cK cp k s):=by
    have hpw:w.heap.size≤p:=HI.o.news.1;have hsc: ∀ g,g≠p→(w6.setCell ⟨p,1,none⟩ (.slice (some ⟨ga,0,none⟩) (k+1) ca)).heap[g]? =w6.heap[g]?:=fun g hg=>dJ w6 ⟨p,1,none⟩ _ g hg
    have aaj: ∀ {g:Nat},jO w6 5 g (dT s 0)→g≠p:=fun {g} hb e=>by
     obtain⟨cur,hc,_⟩:=hb;have h2:=MU.o;rw[aG,←e,hc] at h2;injection h2 with h2
     injection h2 with _ h3
     revert h3;decide
    have hwr:w.heap.size≤wr.heap.size:=HI.o.ak.size;refine⟨by simpa using MU.o.put 1 (.slice (some ⟨ga,0,none⟩) (k+1) ca),?_,fun i hi=>?_,fun i j hi hj he=>?_,HM6.o.same (hsc mb (fun e=>HM6.o.mE MU.o e.symm)),eD iL.o hpw _,HI.o.news⟩
    ·have h1:=(HR6.o.mono (T:=fun g=>w.heap.size≤g) (fun g hg _=>by
      rcases hg with hg|hg
      ·exact hg
      have:=eu.o.size;omega)).Ou (hsc ga (Ne.symm HPG.o))
     exact acp
    ·by_cases e:i=k
     ·subst e;rw[bL,bL];exact⟨KB.o.same (hsc _ (aaj KB.o)),aY _,hwr⟩
     exact abU
    exact acu
   exact ab4
  have h': ¬(k:Int)<(n:Int):=ai;have Ma:k=n:=ai;have hd:=HI.o;rw[Ma] at hd;have lH:af7 n s w (.returned (.tuple #[.pointer (some ⟨p,0,none⟩),.int .i64 0])) wr:=⟨p,_,rfl,hd.done HN.o (by rcases HS.o with rfl|rfl <;>omega),fun k hk=>hk.1,hd.ak⟩;have HF:=aa lH;clear lH hd Ma;go_wp2_with fail;go_ret2;exact HF.o
end En
end
section
namespace En
def WM(d:bJ)(kp:Nat): Array Value:=#[.pointer (some ⟨kp,0,none⟩),.bool d.down,.int .i64 d.ei,.int .i64 d.count]
structure qH(S:Nat→Prop)(w:World)(p:Nat)(d:bJ)(kp:Nat)(SK:Nat→Prop): Prop where
 own:aG w p 218 (WM d kp)
 BI:uW kp d.dk SK w
 bB:S p∧∀ k,SK k→S k∧k≠p
 lt: ∀ k,S k→k<w.heap.size
 arm: -1≤d.ei∧d.ei≤9223372036854775807
def dB(p:Nat)(d:bJ)(S:Nat→Prop)(w:World): Prop:=∃ kp SK,qH S w p d kp SK
theorem aF(p:Nat)(d:bJ): Loc (dB p d):=by
 refine⟨fun⟨_,_,h⟩=>h.lt,fun {S w w'} ⟨kp,SK,h⟩ hz hk=>⟨kp,SK,?_⟩,fun {S T w} ⟨kp,SK,h⟩ p7 hT=>⟨kp,SK,?_⟩⟩
 ·exact⟨(hk p h.bB.1).trans h.own,(mo kp d.dk).same h.BI hz (fun k hs=>hk k (h.bB.2 k hs).1),h.bB,fun k hs=>aU (h.lt k hs) hz,h.arm⟩
 exact⟨h.own,h.BI,⟨p7 _ h.bB.1,fun k hs=>⟨p7 _ (h.bB.2 k hs).1,(h.bB.2 k hs).2⟩⟩,hT,h.arm⟩
theorem qH.kT{S:Nat→Prop}{w w':World}{p kp:Nat}{d d':bJ}{SK:Nat→Prop}(h:qH S w p d kp SK)(ht:aI (· =p) w w')(ho:aG w' p 218 (WM d' kp))(hd:d'.dk=d.dk)(ha: -1≤d'.ei∧d'.ei≤9223372036854775807): qH S w' p d' kp SK:=
 ⟨ho,by rw[hd];exact(mo kp d.dk).cR h.BI ht (fun k hs=>(h.bB.2 k hs).2),h.bB,fun k hs=>aU (h.lt k hs) ht.size,ha⟩
theorem qH.step{S:Nat→Prop}{w w':World}{p kp:Nat}{d:bJ}{SK:Nat→Prop}{k':Dk}(h:qH S w p d kp SK)(ht:aI SK w w')(hd:uW kp k' (Gr SK w w') w'): qH (Gr S w w') w' p {d with dk:=k'} kp (Gr SK w w'):=
 ⟨ht.arr h.own (fun e=>(h.bB.2 p e).2 rfl),hd,⟨.inl h.bB.1,fun k hs=>by
  rcases hs with hs|hs
  ·exact⟨.inl (h.bB.2 k hs).1,(h.bB.2 k hs).2⟩
  ·exact⟨.inr hs,fun e=>by have:=h.own.lt;omega⟩⟩,fun k hs=>by
  rcases hs with hs|hs
  ·exact aU (h.lt k hs) ht.size
  exact hs.2,h.arm⟩
theorem B1(p kp:Nat)(w:World)(h:w.cell? ⟨p,0,none⟩=some (.pointer (some ⟨kp,0,none⟩))): Calls af 106 #[.pointer (some ⟨p,0,none⟩)] w fun e w'=>e= .returned (.bool false)∧w'=w:=by
 go_enter Tryz.func106,Tryz.ntmps106;go_wp2_with fail;go_ret;exact⟨rfl,rfl⟩
theorem age(x:Int): aN.wrap x=wrap64 x:=by rw[IntKind.wrap_i64];unfold wrap64;rfl
def oP(p kp:Nat)(d:bJ)(w:World)(e:Ending)(w':World): Prop:=e= .returned (.int .i64 (if d.op.1=true then 0 else 60))∧aG w' p 218 (WM d.op.2 kp)∧aI (· =p) w w'
theorem UK(p kp:Nat)(d:bJ)(w:World)(h:aG w p 218 (WM d kp))(hd:d.down=true): Calls af 121 #[.pointer (some ⟨p,0,none⟩)] w (oP p kp d w):=by
 have x0:w.cell? ⟨p,0,none⟩=some (.pointer (some ⟨kp,0,none⟩)):=h.cell 0;have x1:w.cell? ⟨p,1,none⟩=some (.bool true):=EK;have ho:d.op=(false,d):=by unfold bJ.op;rw[if_pos hd]
 have hf:oP p kp d w (.returned (.int .i64 60)) w:=by unfold oP;rw[ho];exact⟨rfl,h,aI.refl _ _⟩
 have HF:=aa hf;clear h hd ho hf;exact abW
theorem Qv(p kp:Nat)(d:bJ)(w:World)(h:aG w p 218 (WM d kp))(hd:d.down=false)(ha:d.ei=0): Calls af 121 #[.pointer (some ⟨p,0,none⟩)] w (oP p kp d w):=by
 have x0:w.cell? ⟨p,0,none⟩=some (.pointer (some ⟨kp,0,none⟩)):=h.cell 0;have x1:w.cell? ⟨p,1,none⟩=some (.bool false):=EK;have x2:w.cell? ⟨p,2,none⟩=some (.int .i64 0):=by rw[←ha];exact h.cell 2
 have m1:=h.mark 1;have m2:=h.mark 2;have ho:d.op=(false,{d with down:=true,ei:=-1}):=by unfold bJ.op;rw[if_neg (by rw[hd];simp),if_pos ha]
 have hf:oP p kp d w (.returned (.int .i64 60)) ((w.setCell ⟨p,1,none⟩ (.bool true)).setCell ⟨p,2,none⟩ (.int .i64 (-1))):=by
  unfold oP;rw[ho];exact⟨rfl,by simpa[WM] using(h.put 1 (.bool true)).put 2 (.int .i64 (-1)),(aI.at w p 1 _).BQ 2 _⟩
 have HF:=aa hf;clear h hd ho hf ha;exact abW
theorem LP(p kp:Nat)(d:bJ)(w:World)(h:aG w p 218 (WM d kp))(hd:d.down=false)(ha:0<d.ei)(ha2:d.ei≤9223372036854775807): Calls af 121 #[.pointer (some ⟨p,0,none⟩)] w (oP p kp d w):=by
 have x0:w.cell? ⟨p,0,none⟩=some (.pointer (some ⟨kp,0,none⟩)):=h.cell 0;have x1:w.cell? ⟨p,1,none⟩=some (.bool false):=EK;have x2:w.cell? ⟨p,2,none⟩=some (.int .i64 d.ei):=h.cell 2;have x3:w.cell? ⟨p,3,none⟩=some (.int .i64 d.count):=h.cell 3;have m2:=h.mark 2;have m3:=h.mark 3;have hq:(d.ei==0)=false:=fZ;have ho:d.op=(true,{d with ei:=d.ei - 1,count:=aN.wrap (d.count+1)}):=by unfold bJ.op;rw[if_neg (by rw[hd];simp),if_neg ai,if_pos ha]
 obtain⟨c1,hc1⟩:=ae (aN.wrap (d.count+1));have hf: ∀ W:World,W=(w.setCell ⟨p,2,none⟩ (.int .i64 (d.ei - 1))).setCell ⟨p,3,none⟩ (.int .i64 c1)→oP p kp d w (.returned (.int .i64 0)) W:=by
  rintro W rfl;unfold oP;rw[ho];exact⟨rfl,by simpa[WM,hc1] using(h.put 2 (.int .i64 (d.ei - 1))).put 3 (.int .i64 c1),(aI.at w p 2 _).BQ 3 _⟩
 exact acd
theorem Qw(p kp:Nat)(d:bJ)(w:World)(h:aG w p 218 (WM d kp))(hd:d.down=false)(ha:d.ei<0): Calls af 121 #[.pointer (some ⟨p,0,none⟩)] w (oP p kp d w):=by
 have x0:w.cell? ⟨p,0,none⟩=some (.pointer (some ⟨kp,0,none⟩)):=h.cell 0;have x1:w.cell? ⟨p,1,none⟩=some (.bool false):=EK;have x2:w.cell? ⟨p,2,none⟩=some (.int .i64 d.ei):=h.cell 2;have x3:w.cell? ⟨p,3,none⟩=some (.int .i64 d.count):=h.cell 3;have m3:=h.mark 3;have hq:(d.ei==0)=false:=fZ;have hn: ¬0<d.ei:=ai;have ho:d.op=(true,{d with count:=aN.wrap (d.count+1)}):=by unfold bJ.op;rw[if_neg (by rw[hd];simp),if_neg ai,if_neg hn]
 obtain⟨c1,hc1⟩:=ae (aN.wrap (d.count+1));have hf: ∀ W:World,W=w.setCell ⟨p,3,none⟩ (.int .i64 c1)→oP p kp d w (.returned (.int .i64 0)) W:=by
  rintro W rfl;unfold oP;rw[ho];exact⟨rfl,by simpa[WM,hc1] using h.put 3 (.int .i64 c1),aI.at w p 3 _⟩
 exact acd
theorem fQ(p kp:Nat)(d:bJ)(w:World)(h:aG w p 218 (WM d kp))(ha:d.ei≤9223372036854775807): Calls af 121 #[.pointer (some ⟨p,0,none⟩)] w (oP p kp d w):=by
 cases hd:d.down with
 | true=>exact UK p kp d w h hd
 | false=>
  rcases Int.lt_trichotomy d.ei 0 with h1|h1|h1
  ·exact Qw p kp d w h hd h1
  ·exact Qv p kp d w h hd h1
  exact LP p kp d w h hd h1 ha
end En
end
section
namespace En
theorem bJ.tZ(d:bJ): d.op.2.dk=d.dk:=by unfold bJ.op;split;rfl;split <;>rfl
theorem bJ.aen(d:bJ)(h: -1≤d.ei∧d.ei≤9223372036854775807): -1≤d.op.2.ei∧d.op.2.ei≤9223372036854775807:=by
 unfold bJ.op;split
 ·exact h
 split
 ·simp
 simp only;split <;>omega
variable{p:Nat}{S:Nat→Prop}{w:World}
theorem dB.lift{d:bJ}{w1 w2:World} (h:dB p d (Gr S w1 w2) w2)(hS: ∀ k,S k→k<w.heap.size)(h1:w.heap.size≤w1.heap.size)(h2:w1.heap.size≤w2.heap.size): dB p d (Gr S w w2) w2:=
 (aF p d).mono h (fun k hk=>by rcases hk with hk|hk;exact .inl hk;exact .inr ⟨ai,hk.2⟩) (fun k hk=>by rcases hk with hk|hk;exact aU (hS k hk) ai;exact hk.2)
theorem pR{kp:Nat} {d:bJ}{SK:Nat→Prop} {w1:World} {e:Ending}(h:qH S w p d kp SK)(ho:oP p kp d w e w1): e= .returned (.int .i64 (if d.op.1=true then 0 else 60))∧qH S w1 p d.op.2 kp SK∧aI S w w1:=
 ⟨ho.1,h.kT ho.2.2 ho.2.1 d.tZ (d.aen h.arm),ho.2.2.mono fun k _ hk=>hk▸h.bB.1⟩
theorem Ed{d:bJ}(h:dB p d S w)(at_:Int)(b:By)(A:Option Addr)(c:Nat)(hB:Bs w A b)(hA:qV A)(hAS: ∀ g off,A=some ⟨g,off,none⟩→¬S g)(hrow:d.dk.row.length<1000000):
  Calls af 47 #[.pointer (some ⟨p,0,none⟩),.int .i64 at_,.slice A b.length c] w fun e w'=>e= .returned (.int .i64 (d.write at_ b).1)∧dB p (d.write at_ b).2 (Gr S w w') w'∧aI S w w':=by
 have L:=aF p;have HS:=aa (fun k hk=>(L d).lt h k hk);obtain⟨kp,SK,h⟩:=h;have HM:=aa (fQ p kp d w h.own h.arm.2);have HH:=aa h;have HB:=aa hB;have HA:=aa hA;have CG:=aa hAS;have HL:=aa L;clear h hB hA hAS L;cases hop:d.op.1 with
 | false=>
  have hw:d.write at_ b=(60,d.op.2):=by unfold bJ.write;rw[if_neg (by rw[hop];simp)]
  rw[hw];have Zi:=aa hop;clear hop hw;go_enter Tryz.func47,Tryz.ntmps47;exact acn
 | true=>
  have hw:d.write at_ b=((d.op.2.dk.write at_ b).1,{d.op.2 with dk:=(d.op.2.dk.write at_ b).2}):=by unfold bJ.write;rw[if_pos hop]
  rw[hw];have Zi:=aa hop;clear hop hw;go_enter Tryz.func47,Tryz.ntmps47;go_wp2_with fail;refine HM.o.mono ?_;rintro e w1 ho;obtain⟨he,hd,ht⟩:=pR HH.o ho;rw[Zi.o] at he;subst he;have y0:w1.cell? ⟨p,0,none⟩=some (.pointer (some ⟨kp,0,none⟩)):=hd.own.cell 0;have Wv:=HB.o.cR ht (fun g off e _=>CG.o g off e);have B5:=aa (Xf hd.BI at_ b A c Wv HA.o (by rw[d.tZ];exact hrow));have HD:=aa hd;have HT:=aa ht;clear ho hd ht Wv;go_wp2_with fail;refine B5.o.mono ?_;rintro e w2 ⟨rfl,hk,ud⟩;have hd2:=HD.o.step ud hk;have HF:=aa (show dB p {d.op.2 with dk:=(d.op.2.dk.write at_ b).2} (Gr S w w2) w2∧aI S w w2 from⟨dB.lift ⟨kp,_,hd2⟩ HS.o HT.o.size ud.size,HT.o.trans (ud.mono fun k _ hk=>(HD.o.bB.2 k hk).1)⟩);clear hk ud hd2 B5;go_wp2_with fail;go_ret;exact⟨rfl,HF.o⟩
theorem XC{d:bJ}(h:dB p d S w)(hrow:d.dk.row.length≤1000000):
  Calls af 332 #[.pointer (some ⟨p,0,none⟩)] w fun e w'=>e= .returned (.int .i64 d.sync.1)∧dB p d.sync.2 (Gr S w w') w'∧aI S w w':=by
 have L:=aF p;have HS:=aa (fun k hk=>(L d).lt h k hk);obtain⟨kp,SK,h⟩:=h;have HM:=aa (fQ p kp d w h.own h.arm.2);have HH:=aa h;have HL:=aa L;clear h L;cases hop:d.op.1 with
 | false=>
  have hw:d.sync=(60,d.op.2):=by unfold bJ.sync;rw[if_neg (by rw[hop];simp)]
  rw[hw];have Zi:=aa hop;clear hop hw;go_enter Tryz.func332,Tryz.ntmps332;exact acn
 | true=>
  have hw:d.sync=(0,{d.op.2 with dk:=d.op.2.dk.settle (fun _=>d.op.2.dk.size)}):=by unfold bJ.sync;rw[if_pos hop,d.tZ]
  rw[hw];have Zi:=aa hop;clear hop hw;go_enter Tryz.func332,Tryz.ntmps332;go_wp2_with fail;refine HM.o.mono ?_;rintro e w1 ho;obtain⟨he,hd,ht⟩:=pR HH.o ho;rw[Zi.o] at he;subst he;have y0:w1.cell? ⟨p,0,none⟩=some (.pointer (some ⟨kp,0,none⟩)):=hd.own.cell 0;have B5:=aa (aaO hd.BI (by rw[d.tZ];exact hrow));have HD:=aa hd;have HT:=aa ht;clear ho hd ht;go_wp2_with fail;refine B5.o.mono ?_;rintro e w2 ⟨rfl,hk,ud⟩;have hd2:=HD.o.step ud hk;have HF:=aa (show dB p {d.op.2 with dk:=d.op.2.dk.settle (fun _=>d.op.2.dk.size)} (Gr S w w2) w2∧aI S w w2 from⟨dB.lift ⟨kp,_,hd2⟩ HS.o HT.o.size ud.size,HT.o.trans (ud.mono fun k _ hk=>(HD.o.bB.2 k hk).1)⟩);clear hk ud hd2 B5;go_wp2_with fail;go_ret;exact⟨rfl,HF.o⟩
def PRd(S:Nat→Prop)(p:Nat)(r:Int × By × bJ)(w:World)(e:Ending)(w':World): Prop:=
 (∃ A c,e= .returned (.tuple #[.slice A r.2.1.length c,.int .i64 r.1])∧(r.2.1≠ []→∃ g,A=some ⟨g,0,none⟩∧w.heap.size≤g∧jO w' 5 g r.2.1)∧r.2.1.length≤c)∧dB p r.2.2 S w'∧aI S w w'
theorem JW{d:bJ}(h:dB p d S w)(at_:Int): Calls af 330 #[.pointer (some ⟨p,0,none⟩),.int .i64 at_] w (PRd S p (d.read at_) w):=by
 obtain⟨kp,SK,h⟩:=h;have HM:=aa (fQ p kp d w h.own h.arm.2);have HH:=aa h;clear h;cases hop:d.op.1 with
 | false=>
  have hw:d.read at_=(60,[],d.op.2):=by unfold bJ.read;rw[if_neg (by rw[hop];simp)]
  rw[hw];have Zi:=aa hop;clear hop hw;go_enter Tryz.func330,Tryz.ntmps330;go_wp2_with fail;refine HM.o.mono ?_;rintro e w1 ho;obtain⟨he,hd,ht⟩:=pR HH.o ho;rw[Zi.o] at he;subst he;have HF:=aa (show dB p d.op.2 S w1∧aI S w w1 from⟨⟨kp,SK,hd⟩,ht⟩);clear ho hd ht;go_wp2_with fail;go_ret2;exact⟨⟨none,0,rfl,fun h=>absurd rfl h,aY _⟩,HF.o⟩
 | true=>
  have hw:d.read at_=((d.op.2.dk.read at_).1,(d.op.2.dk.read at_).2,d.op.2):=by unfold bJ.read;rw[if_pos hop]
  rw[hw];have Zi:=aa hop;clear hop hw;go_enter Tryz.func330,Tryz.ntmps330;go_wp2_with fail;refine HM.o.mono ?_;rintro e w1 ho;obtain⟨he,hd,ht⟩:=pR HH.o ho;rw[Zi.o] at he;subst he;have y0:w1.cell? ⟨p,0,none⟩=some (.pointer (some ⟨kp,0,none⟩)):=hd.own.cell 0;have B5:=aa (aaU hd.BI at_);have HD:=aa hd;have HT:=aa ht;clear ho hd ht;go_wp2_with fail;refine B5.o.mono ?_;rintro e w2 ⟨A,c,rfl,h1,h2,h3⟩;have hf:PRd S p ((d.op.2.dk.read at_).1,(d.op.2.dk.read at_).2,d.op.2) w (.returned (.tuple #[.slice A (d.op.2.dk.read at_).2.length c,.int .i64 (d.op.2.dk.read at_).1])) w2:=
   ⟨⟨A,c,rfl,fun hne=>by obtain⟨g,a,b,x⟩:=h1 hne;exact⟨g,a,aV HT.o.size b,x⟩,h2⟩,(aF p d.op.2).ak ⟨kp,SK,HD.o⟩ h3,HT.o.ak h3⟩
  have HF:=aa hf;clear h1 h2 h3 B5 hf;go_wp2_with fail;go_ret2;exact HF.o
end En
end
section
namespace En
variable{p:Nat}{S:Nat→Prop}{w:World}
theorem JV{d:bJ}(h:dB p d S w): Calls af 125 #[.pointer (some ⟨p,0,none⟩)] w fun e w'=>e= .returned (.int .i64 d.dk.dh.length)∧w'=w:=by
 obtain⟨kp,SK,h⟩:=h;have x0:w.cell? ⟨p,0,none⟩=some (.pointer (some ⟨kp,0,none⟩)):=h.own.cell 0;obtain⟨q,hq⟩:=h.BI;have HS:=aa (BU hq);clear h hq;go_enter Tryz.func125,Tryz.ntmps125;exact UT
theorem XD{d:bJ}(h:dB p d S w): Calls af 126 #[.pointer (some ⟨p,0,none⟩)] w fun e w'=>e= .returned (.int .i64 d.dk.size)∧w'=w:=by
 obtain⟨kp,SK,h⟩:=h;have x0:w.cell? ⟨p,0,none⟩=some (.pointer (some ⟨kp,0,none⟩)):=h.own.cell 0;obtain⟨q,hq⟩:=h.BI;have HS:=aa (aaP hq);clear h hq;go_enter Tryz.func126,Tryz.ntmps126;exact UT
theorem sJ{d:bJ}(h:dB p d S w): Calls af 39 #[.pointer (some ⟨p,0,none⟩)] w fun e w'=>e= .returned (.int .i64 d.dk.row.length)∧w'=w:=by
 obtain⟨kp,SK,h⟩:=h;have x0:w.cell? ⟨p,0,none⟩=some (.pointer (some ⟨kp,0,none⟩)):=h.own.cell 0;obtain⟨q,hq⟩:=h.BI;have HS:=aa (ME hq);clear h hq;go_enter Tryz.func39,Tryz.ntmps39;exact UT
theorem O2{kp:Nat}{k:Dk}(h:uW kp k S w): Calls af 115 #[.pointer (some ⟨kp,0,none⟩)] w fun e w'=>∃ p,e= .returned (.tuple #[.pointer (some ⟨p,0,none⟩),.int .i64 0])∧dB p ⟨k,false,-1,0⟩ (Gr S w w') w'∧w.heap.size≤p∧Below w.heap.size w w':=by
 have HL:=aa (mo kp k);have HS:=aa (fun j hj=>(mo kp k).lt h j hj);have HH:=aa h;obtain⟨q,hq⟩:=h;have F4:=aa (BU hq);have hn:((k.dh.length:Int)==0)=false:=by have:=hq.ok.some;rw[beq_eq_false_iff_ne];omega
 have px:(k.dh.length==0)=false:=by have:=hq.ok.some;rw[beq_eq_false_iff_ne];omega
 clear hq;go_enter Tryz.func115,Tryz.ntmps115;go_wp2_with fail;refine ag F4.o ?_;clear F4;go_wp2_with fail;go_ret2;have hb:Below w.heap.size w (w.alloc (.cells #[.pointer (some ⟨kp,0,none⟩),.bool false,.int .i64 (-1),.int .i64 0] 218)):=ay (ar _ _) _;refine⟨w.heap.size,rfl,⟨kp,S,⟨aG.fresh w _ _,HL.o.ak HH.o hb,⟨.inr ⟨aY _,dM⟩,fun j hj=>⟨.inl hj,fun e=>by have:=HS.o j hj;omega⟩⟩,fun j hj=>?_,dM⟩⟩,aY _,hb⟩;rcases hj with hj|hj
 ·have:=HS.o j hj;simp;omega
 exact hj.2
end En
end
section
namespace En
structure fV(w:World)(r p:Nat)(g:Rg)(size:Nat): Prop where
 own:aG w r 239 #[.pointer (some ⟨p,0,none⟩),.int .i64 g.from_,.int .i64 g.count,.int .i64 size]
 size:1≤size∧size≤4096
 count:1≤g.count∧g.from_+g.count≤65536
variable{w:World}{r p size:Nat}
theorem fV.ah{w':World} {g:Rg}(h:fV w r p g size)(hb:Below w.heap.size w w'): fV w' r p g size:=⟨h.own.ah hb,h.size,h.count⟩
theorem fV.cR{S:Nat→Prop}{w':World} {g:Rg}(h:fV w r p g size)(ht:aI S w w')(hr: ¬S r): fV w' r p g size:=⟨ht.arr h.own hr,h.size,h.count⟩
theorem fV.eU{g:Rg}(h:fV w r p g size): g.bytes size≤268435456:=by
 have h1:=h.size;have h2:=h.count;unfold Rg.bytes
 calc g.count*size≤65536*4096:=Nat.mul_le_mul ai ai
  _=268435456:=aM
theorem nT(r p:Nat)(w:World)(h:w.cell? ⟨r,0,none⟩=some (.pointer (some ⟨p,0,none⟩))): Calls af 206 #[.pointer (some ⟨r,0,none⟩)] w fun e w'=>e= .returned (.bool true)∧w'=w:=by
 go_enter Tryz.func206,Tryz.ntmps206;go_wp2_with fail;go_ret;exact⟨rfl,rfl⟩
theorem Eb{g:Rg}(h:fV w r p g size): Calls af 207 #[.pointer (some ⟨r,0,none⟩)] w fun e w'=>e= .returned (.int .i64 (g.bytes size:Nat))∧Below w.heap.size w w':=by
 have x2:w.cell? ⟨r,2,none⟩=some (.int .i64 g.count):=h.own.cell 2;have x3:w.cell? ⟨r,3,none⟩=some (.int .i64 size):=h.own.cell 3;have hb:=h.eU;have e1:(g.count:Int)*(size:Int)=((g.bytes size:Nat):Int):=by unfold Rg.bytes;push_cast;rfl
 have hw:aN.wrap ((g.bytes size:Nat):Int)=((g.bytes size:Nat):Int):=IntWalk.i64_in _ ai;have hb':((g.bytes size:Nat):Int)≤268435456:=ai;clear h;generalize g.bytes size=B at *;go_enter Tryz.func207,Tryz.ntmps207;exact Vb
theorem ny{g:Rg}(h:fV w r p g size): Calls af 95 #[.pointer (some ⟨r,0,none⟩)] w fun e w'=>e= .returned (.int .i64 (g.bytes size:Nat))∧Below w.heap.size w w':=by
 have x0:w.cell? ⟨r,0,none⟩=some (.pointer (some ⟨p,0,none⟩)):=h.own.cell 0;have HB:=aa (Eb h);clear h;go_enter Tryz.func95,Tryz.ntmps95;go_wp2_with fail;refine ag (nT r p w x0) ?_;go_wp2_with fail;refine HB.o.mono ?_;exact IH
theorem kF{g:Rg}(h:fV w r p g size): Calls af 128 #[.pointer (some ⟨r,0,none⟩)] w fun e w'=>e= .returned (.int .i64 size)∧w'=w:=by
 have x0:w.cell? ⟨r,0,none⟩=some (.pointer (some ⟨p,0,none⟩)):=h.own.cell 0;have x3:w.cell? ⟨r,3,none⟩=some (.int .i64 size):=h.own.cell 3;clear h;go_enter Tryz.func128,Tryz.ntmps128;go_wp2_with fail;refine ag (nT r p w x0) ?_;go_wp2_with fail;go_ret;exact⟨rfl,rfl⟩
theorem JT{g:Rg}{d:bJ}{S:Nat→Prop}(h:fV w r p g size)(hD:dB p d S w)(hrow:d.dk.row.length≤1000000): Calls af 295 #[.pointer (some ⟨r,0,none⟩)] w fun e w'=>e= .returned (.int .i64 d.sync.1)∧dB p d.sync.2 (Gr S w w') w'∧aI S w w':=by
 have x0:w.cell? ⟨r,0,none⟩=some (.pointer (some ⟨p,0,none⟩)):=h.own.cell 0;have HS:=aa (XC hD hrow);clear h hD;go_enter Tryz.func295,Tryz.ntmps295;go_wp2_with fail;refine ag (nT r p w x0) ?_;go_wp2_with fail;refine HS.o.mono ?_;exact IH
theorem uE(size k a m:Nat)(hs:1≤size)(hm:1≤m)(hk:m≤k+1): ∃ s f t d,a / size=s∧a % size=f∧min size (f+m)=t∧t - f=d∧f<t∧t≤size∧1≤d∧d≤m∧m - d≤k∧pieces size (k+1) a m=⟨s,f,t⟩::pieces size k (a+d) (m - d):=by
 have hf:a % size<size:=Nat.mod_lt _ hs;refine⟨_,_,_,_,rfl,rfl,rfl,rfl,ai,ai,ai,ai,ai,?_⟩;rw[pieces,if_neg ai]
theorem QU{g:Rg}(w:World)(lb:Array Value)(at_ n:Nat)(I:List Piece→World→Prop)(Er:Int→World→Prop)(hsz:1≤size∧size≤4096)(hg:g.from_≤65536)(hn:at_+n≤268435456)
  (hI: ∀ ps W,I ps W→fV W r p g size)
  (hf: ∀ x ps W,I (x::ps) W→Calls af 365 (#[.int .i64 ((g.from_+x.s:Nat):Int),.int .i64 x.f,.int .i64 x.t]++lb) W fun e W'=>(e= .returned (.int .i64 0)∧I ps W')∨∃ er:Int,er≠0∧e= .returned (.int .i64 er)∧Er er W')
  (h0:I (pieces size n at_ n) w) :
  Calls af 328 #[.pointer (some ⟨r,0,none⟩),.int .i64 at_,.int .i64 n,.func (.func 365) #[] lb] w fun e w'=>(e= .returned (.int .i64 0)∧I [] w')∨∃ er:Int,er≠0∧e= .returned (.int .i64 er)∧Er er w':=by
 exact acM
theorem Ms{g:Rg}(w:World)(lb:Array Value)(at_ n:Nat)(I:List Piece→World→Prop)(Er:Int→World→Prop)(hsz:1≤size∧size≤4096)(hg:g.from_≤65536)(hn:at_+n≤268435456)
  (hI: ∀ ps W,I ps W→fV W r p g size)
  (hf: ∀ x ps W,I (x::ps) W→Calls af 329 (#[.int .i64 ((g.from_+x.s:Nat):Int),.int .i64 x.f,.int .i64 x.t]++lb) W fun e W'=>(e= .returned (.int .i64 0)∧I ps W')∨∃ er:Int,er≠0∧e= .returned (.int .i64 er)∧Er er W')
  (h0:I (pieces size n at_ n) w) :
  Calls af 328 #[.pointer (some ⟨r,0,none⟩),.int .i64 at_,.int .i64 n,.func (.func 329) #[] lb] w fun e w'=>(e= .returned (.int .i64 0)∧I [] w')∨∃ er:Int,er≠0∧e= .returned (.int .i64 er)∧Er er w':=by
 exact acM
end En
end
section
namespace En
variable{r p size:Nat}{w:World}
theorem vR{g:Rg}(h:fV w r p g size)(at_ n:Nat)(hat:at_≤268435456)(hn:n≤268435456): Calls af 327 #[.pointer (some ⟨r,0,none⟩),.int .i64 at_,.int .i64 n] w fun e w'=>e= .returned (.bool (!g.bad size at_ n))∧Below w.heap.size w w':=by
 have hb:=h.eU;have HB:=aa fun(W:World) (hW:Below w.heap.size w W)=>Eb (h.ah hW)
 obtain⟨B,hB⟩:=ae (g.bytes size);have nK:(!g.bad size at_ n)=(decide (at_≤B) && decide (n≤B - at_)):=by
  unfold Rg.bad;rw[hB,Bool.eq_iff_iff];simp;omega
 rw[nK];rw[hB] at HB hb;clear nK h hB;by_cases h1:at_≤B
 ·have R2:(at_:Int)≤(B:Int):=by omega
  have t1:decide (at_≤B)=true:=wW;obtain⟨m,hm⟩:=ae (B - at_:Nat);have hm':(B:Int) - (at_:Int)=(m:Int):=ai;have t2:decide ((n:Int)≤(m:Int))=decide (n≤m):=dM;rw[t1,Bool.true_and,hm];have hw:aN.wrap ((m:Nat):Int)=((m:Nat):Int):=IntWalk.i64_in _ ai;clear hm;go_enter Tryz.func327,Tryz.ntmps327;go_wp2_with fail;refine(HB.o _ (ar _ _)).mono ?_;rintro e w1 ⟨rfl,a8⟩;have sK:=aa a8;clear a8;go_wp2_with fail;refine(HB.o _ sK.o).mono ?_;rintro e w2 ⟨rfl,hw2⟩;have Kw:=aa (show Below w.heap.size w w2 from av sK.o hw2);clear hw2;go_wp2_with fail;go_ret;exact⟨rfl,Kw.o⟩
 have R2: ¬(at_:Int)≤(B:Int):=ai;have t1:decide (at_≤B)=false:=wW;rw[t1,Bool.false_and];go_enter Tryz.func327,Tryz.ntmps327;go_wp2_with fail;refine(HB.o _ (ar _ _)).mono ?_;exact IH
def P3: List Piece→Nat
 | []=>0
 | x::ps=>(x.t - x.f)+P3 ps
theorem nE(size:Nat)(hs:1≤size): ∀ k a n,n≤k→P3 (pieces size k a n)=n
 | 0,a,n,h=>by rw[show n=0 from ai];rfl
 | k+1,a,n,h=>by
  by_cases h0:n=0
  ·rw[pieces,if_pos h0,h0];rfl
  obtain⟨s,f,t,d,_,_,_,e4,Y2,_,_,hdm,hmk,hp⟩:=uE size k a n hs ai h;rw[hp,P3,nE size hs k _ _ hmk];show t - f+(n - d)=n
  omega
theorem pM(size:Nat)(hs:1≤size): ∀ k a n,n≤k→∀ x∈pieces size k a n,x.f<x.t∧x.t≤size
 | 0,a,n,h=>by rw[pieces];intro x hx;cases hx
 | k+1,a,n,h=>by
  by_cases h0:n=0
  ·rw[pieces,if_pos h0];intro x hx;cases hx
  obtain⟨s,f,t,d,_,_,_,e4,Y2,hts,_,hdm,hmk,hp⟩:=uE size k a n hs ai h;rw[hp];intro x hx;rcases List.mem_cons.1 hx with rfl|hx
  ·exact⟨Y2,hts⟩
  exact pM size hs k _ _ hmk x hx
theorem bJ.NY{d:bJ}{at_:Int}(h:(d.read at_).1=0)(hk:d.dk.Ok): (d.read at_).2.1.length=d.dk.size:=by
 unfold bJ.read at h ⊢;split at h
 ·rename_i hop;rw[if_pos hop];simp only[bJ.tZ] at h ⊢;unfold Dk.read at h ⊢;split at h
  ·simp at h
  rename_i hb;rw[if_neg hb];simp only;unfold Dk.look;cases hr:gN d.dk.row at_.toNat with
  | some b=>
   have: ∀ l:List (Nat × By),(∀ x∈l,x.2.length=d.dk.size)→∀ b,gN l at_.toNat=some b→b.length=d.dk.size:=by
    intro l
    induction l with
    | nil=>intro _ b hb;cases hb
    | cons x l ih=>
     intro hl b hb;rw[gN] at hb;split at hb
     ·rename_i b' hb';injection hb with hb
      subst hb;exact ih (fun y hy=>hl y (gz _ hy)) _ hb'
     split at hb
     ·injection hb with hb
      subst hb;exact hl x (List.mem_cons_self ..)
     cases hb
   exact this _ (fun x hx=>(hk.aD x hx).2) b hr
  | none=>
   simp only[Dk.bad,Bool.or_eq_true,decide_eq_true_eq,not_or] at hb;rw[Option.getD_none,bR,List.getElem?_eq_getElem ai];exact hk.each _ (List.getElem_mem _)
 simp at h
theorem bJ.lQ(d:bJ)(at_:Int): (d.read at_).2.2.dk=d.dk:=by unfold bJ.read;split <;>exact bJ.tZ d
structure RdI(S:Nat→Prop)(w:World)(base bx o r p size:Nat)(g:Rg)(R:Int × By × bJ)(ps:List Piece)(W:World): Prop where
 rg:fV W r p g size
 box:W.cell? ⟨bx,0,none⟩=some (.pointer (some ⟨r,0,none⟩))
 WY:base≤W.heap.size
 body: ∃ d acc v,dB p d S W∧d.dk.Ok∧d.dk.size=size∧aG W o 34 #[v]∧W.ownsRow base 5 1 v acc.length (aO acc)∧R=G8 g d ps acc∧acc.length+P3 ps≤268435456
 pcs: ∀ x∈ps,x.f<x.t∧x.t≤size
 cR:aI S w W
def RdE(S:Nat→Prop)(w:World)(p:Nat)(R:Int × By × bJ)(er:Int)(W:World): Prop:=∃ d,R=(er,[],d)∧dB p d S W∧aI S w W
structure RdO(S:Nat→Prop)(w:World)(base bx o r:Nat): Prop where
 mr:w.heap.size≤bx∧bx<base
 ho:w.heap.size≤o∧o<base∧o≠bx
 hr:r<w.heap.size∧¬S r
 hS: ∀ k,S k→k<w.heap.size
theorem aek{S:Nat→Prop}{W:World} {base bx o:Nat} {g:Rg}{R:Int × By × bJ}{x:Piece}{ps:List Piece}(hO:RdO S w base bx o r)(h:RdI S w base bx o r p size g R (x::ps) W):
  Calls af 365 (#[.int .i64 ((g.from_+x.s:Nat):Int),.int .i64 x.f,.int .i64 x.t]++ #[.pointer (some ⟨bx,0,none⟩),.pointer (some ⟨o,0,none⟩)]) W fun e W'=>(e= .returned (.int .i64 0)∧RdI S w base bx o r p size g R ps W')∨∃ er:Int,er≠0∧e= .returned (.int .i64 er)∧RdE S w p R er W':=by
 obtain⟨d,acc,v,hD,hdk,hsz,hv,hown,hR,CX⟩:=h.body;have x0:=h.box;have x1:W.cell? ⟨r,0,none⟩=some (.pointer (some ⟨p,0,none⟩)):=h.rg.own.cell 0;obtain⟨Y2,hts⟩:=h.pcs x (List.mem_cons_self ..);have mj:=aa (JW hD ((g.from_+x.s:Nat):Int));have H:=aa h;have HO:=aa hO;have HDK:=aa hdk;have mz:=aa hsz;have HV:=aa hv;have HW:=aa hown;have HR:=aa hR;have HT:=aa CX;obtain⟨a,ha⟩:=ae (g.from_+x.s:Nat);rw[ha] at mj ⊢;have HA:=aa ha;obtain⟨er,o6⟩:=ae ((d.read (a:Int)).1);obtain⟨b,hb⟩:=ae ((d.read (a:Int)).2.1);obtain⟨d',OL⟩:=ae ((d.read (a:Int)).2.2);have fE:d.read (a:Int)=(er,b,d'):=by rw[←o6,←hb,←OL]
 rw[fE] at mj;have hstep:R=if er=0 then G8 g d' ps (acc++(b.take x.t).drop x.f)else(er,[],d'):=by rw[hR,G8,ha,fE]
 have V':d'.dk=d.dk:=by rw[←OL];exact bJ.lQ _ _
 have hbl:er=0→b.length=size:=fun e0=>by rw[←hb,←hsz];exact bJ.NY (o6.trans e0) hdk
 have HST:=aa hstep;have Ry:=aa V';have El:=aa hbl;have amn:(x.f:Int)≤(x.t:Int):=ai;have hf0:(0:Int)≤(x.f:Int):=ai;have MY:=aa Y2;have HTS:=aa hts;clear h hO hdk hsz hv hown hR CX hD ha o6 hb OL fE hstep V' hbl Y2 hts;go_enter Tryz.func365,Tryz.ntmps365;go_wp2_with fail;refine mj.o.mono ?_;rintro e w1 ⟨⟨A,c,rfl,hblk,hc⟩,hD1,ht1⟩;have sx:aI S w w1:=H.o.cR.trans ht1;have HB:=aa hblk;have HC:=aa hc;have M0:=aa hD1;have iN:=aa sx;have Zb:=aa ht1;clear hblk hc hD1 ht1 sx;by_cases h0:er=0
 ·subst h0;have hbl:=El.o rfl;have afS:=aa hbl;have ala:=aa (show R=G8 g d' ps (acc++(b.take x.t).drop x.f)from by rw[HST.o,if_pos rfl]);clear El HST;have hne:b≠ []:=by intro e;rw[e] at hbl;have:=MY.o;have:=HTS.o;simp at hbl;omega
  obtain⟨gb,rfl,hgb,hBb⟩:=HB.o hne;have HG:=aa hgb;have kS:=aa hBb;have VX: ∀ k,w.heap.size≤k→¬S k:=fun k hk hs=>Nat.lt_irrefl _ (aU (HO.o.hS k hs) hk)
  have y0:w1.cell? ⟨o,0,none⟩=some v:=(Zb.o.arr HV.o (VX _ HO.o.ho.1)).cell 0;have m0:w1.frozen? ⟨o,0,none⟩=false:=(Zb.o.arr HV.o (VX _ HO.o.ho.1)).mark 0;have Z5:(x.t:Int)≤(c:Int):=by have h1:b.length≤c:=HC.o;have:=HTS.o;omega
  have DK:w1.ownsRow base 5 1 v acc.length (aO acc):=eB HW.o fun k hk=>by
   have h1:=pO HW.o k hk;exact Zb.o.block k (eP HW.o hk).1 (VX k (by have:=HO.o.ho;omega))
  have sK:=aa DK;have hcf: ¬c=x.f:=by have:=MY.o;omega
  clear hbl hne hgb hBb VX DK;go_wp2_with fail;refine dL bh ?_;refine bm.any (S:=(fun w'=>w'.cell? ⟨o,0,none⟩=some v)) (t:=6) _ _ _ _ ?_;have hHeld:=(show(fun w'=>w'.cell? ⟨o,0,none⟩=some v) w1.drew from y0);refine tt 0 ?_;refine tt 1 ?_;refine tt 2 ?_;refine tt 3 ?_;refine tt 4 ?_;refine bm.step (i:=5) bh bh rfl (fun K hK=>?_);rw[if_pos iI];obtain⟨i0,hi,hz0,hz1,hz2⟩:=info_parts e8;have C9:((b.take x.t).drop x.f).length=x.t - x.f:=by have:=afS.o;have:=HTS.o;simp;omega
  have hlen:acc.length+(x.t - x.f)≤268435456:=by have:=HT.o;rw[P3] at this;omega
  have tM:Bs w1.drew (some ⟨gb,x.f,none⟩) ((b.take x.t).drop x.f):=by have:=((show Bs w1.drew (some ⟨gb,0,none⟩) b from fun hne=>kS.o.bs hne).take x.t).drop x.f;rwa [Nat.zero_add] at this
  refine wp_append_own w1.drew (.tmp 23) (.tmp 27) 34 rfl base 5 i0 (.int .u8 0) 1 1 fM hi hz0 hz1 hz2 rfl aM v acc.length (aO acc) rfl sK.o ⟨gb,x.f,none⟩ (x.t - x.f) (c - x.f) (aO ((b.take x.t).drop x.f)) rfl (by rw[bu,C9,Nat.mul_one]) tM.read (bO _) jR ai (aV H.o.WY Zb.o.size) ?_;intro v5 w5 kA mg _;obtain⟨A5,c5,rfl⟩:=cB kA;have hno:some o≠v.ownBlock:=fun e=>by have:=pO sK.o o e.symm;have:=HO.o.ho;omega
  have hol:o<w1.heap.size:=bE _ _ y0;have x5:w5.cell? ⟨o,0,none⟩=some v:=(eQ (a:=⟨o,0,none⟩) (mg.block o hol hno)).trans y0;have m5:w5.frozen? ⟨o,0,none⟩=false:=(World.frozen?_of_block (a:=⟨o,0,none⟩) (mg.block o hol hno)).trans m0;have Eh:=aa kA;have wk:=aa mg;have Yk:=aa C9;have uU:=aa hlen;clear tM hno hol kA mg C9 hlen hi hz0 hz1 hz2 i0;refine hK.out _ _ (by exact x5) (fun ju=>?_);clear hK K;try simp only[aZ]
  refine bm.last bh ?_;refine kD 6 bh bh ?_;simp only[tD,GQ];go_wp2_with fail;go_ret;refine .inl ⟨rfl,?_⟩;have RS:o<w5.heap.size:=aU (aU HO.o.ho.2.1 H.o.WY) (aV Zb.o.size wk.o.size);have QI:aI (· =o) w5 (w5.setCell ⟨o,0,none⟩ (.slice A5 (acc.length+(x.t - x.f)) c5)):=aI.at w5 o 0 _;have OH: ∀ k,k<base→k≠o→(w5.setCell ⟨o,0,none⟩ (.slice A5 (acc.length+(x.t - x.f)) c5)).heap[k]? =w1.heap[k]?:=fun k hk hne=>by
   have yF:k<w1.heap.size:=aU hk (aV H.o.WY Zb.o.size);refine(QI.block k (aU yF wk.o.size) hne).trans (wk.o.block k yF fun e=>?_);have:=pO sK.o k e.symm;omega
  have VX: ∀ k,w.heap.size≤k→¬S k:=fun k hk hs=>Nat.lt_irrefl _ (aU (HO.o.hS k hs) hk)
  have hz:w1.heap.size≤(w5.setCell ⟨o,0,none⟩ (.slice A5 (acc.length+(x.t - x.f)) c5)).heap.size:=aV wk.o.size QI.size;have YX:=HO.o.ho;have hTf:aI S w (w5.setCell ⟨o,0,none⟩ (.slice A5 (acc.length+(x.t - x.f)) c5)):=by
   refine⟨QI.os.trans (wk.o.os.trans iN.o.os),QI.tape.trans (wk.o.tape.trans iN.o.tape),QI.output.trans (wk.o.output.trans iN.o.output),aV iN.o.size hz,fun k hk hs=>?_⟩;exact(OH k ai ai).trans (iN.o.block k hk hs)
  refine⟨⟨(OH r (by have:=HO.o.hr;omega) (by have:=HO.o.hr;omega)).trans ((Zb.o.block r (by have:=HO.o.hr;have:=H.o.cR.size;omega) HO.o.hr.2).trans H.o.rg.own),H.o.rg.size,H.o.rg.count⟩,?_,aV H.o.WY (aV Zb.o.size hz),⟨d',acc++(b.take x.t).drop x.f,.slice A5 (acc.length+(x.t - x.f)) c5,?_,?_,?_,?_,?_,?_,?_⟩,fun y hy=>H.o.pcs y (gz _ hy),hTf⟩
  ·refine(eQ (a:=⟨bx,0,none⟩) ((OH bx HO.o.mr.2 (Ne.symm YX.2.2)).trans (Zb.o.block bx (aU HO.o.mr.2 H.o.WY) (VX bx HO.o.mr.1)))).trans H.o.box
  ·refine(aF p d').same M0.o hz fun k hk=>OH k ?_ ?_
   ·have:=HO.o.hS k hk;omega
   have:=HO.o.hS k hk;omega
  ·rw[Ry.o];exact HDK.o
  ·rw[Ry.o];exact mz.o
  ·have:=(((show aG w1.drew o 34 #[v] from Zb.o.arr HV.o (VX _ HO.o.ho.1)).bz wk.o (fun e=>by have:=pO sK.o o e;omega)).put 0 (.slice A5 (acc.length+(x.t - x.f)) c5));simpa using this
  ·rw[dX,List.length_append,Yk.o];refine eB Eh.o fun k hk=>QI.block k ?_ ?_
   ·exact(eP Eh.o hk).1
   have:=pO Eh.o k hk;omega
  ·exact ala.o
  have:=HT.o;rw[P3] at this;rw[List.length_append,Yk.o];omega
 ·have hq:(er==0)=false:=by simp[h0]
  have HF:=aa (show ∃ WK:Int,WK≠0∧Ending.returned (.int .i64 er)= .returned (.int .i64 WK)∧RdE S w p R WK w1 from⟨er,h0,rfl,d',by rw[HST.o,if_neg h0],M0.o,iN.o⟩);clear HST El h0;go_wp2_with fail;go_ret;exact .inr HF.o
theorem fV.Oe{g:Rg}(h:fV w r p g size): g.from_≤65536:=by have:=h.count;omega
theorem JU{S:Nat→Prop}{g:Rg}{d:bJ}(h:fV w r p g d.dk.size)(hD:dB p d S w)(hr: ¬S r)(at_ n:Nat)(hat:at_≤268435456)(hn:n≤268435456):
  Calls af 335 #[.pointer (some ⟨r,0,none⟩),.int .i64 at_,.int .i64 n] w (PRd S p (g.read d at_ n) w):=by
 have hS: ∀ k,S k→k<w.heap.size:=(aF p d).lt hD;have hdk:d.dk.Ok:=Tp;have HD:=aa hD;have HH:=aa h;have HR:=aa hr;have HS:=aa hS;have HDK:=aa hdk;clear hD hS hdk hr;cases nK:g.bad d.dk.size at_ n with
 | true=>
  have hres:g.read d at_ n=(2,[],d):=by unfold Rg.read;rw[if_pos nK]
  rw[hres];clear hres;have Ge:=aa nK;clear nK h;go_enter Tryz.func335,Tryz.ntmps335;go_wp2_with fail;obtain⟨bx,mr⟩:=ae w.heap.size;obtain⟨w1,a8⟩:=ae (w.alloc (.cells #[.pointer (some ⟨r,0,none⟩)] 44));have hb1:=aK a8;have ha1:=aJ a8 mr;rw[a8,mr];have x1:=ha1.cl 0;have kB:=HH.o.ah hb1;have y1:w1.cell? ⟨r,0,none⟩=some (.pointer (some ⟨p,0,none⟩)):=kB.own.cell 0;have bA:=aa hb1;have dF:=aa ha1;have Pk:=aa kB;have yf:=aa mr;clear hb1 ha1 kB mr a8;refine ag (nT r p w1 y1) ?_;go_wp2_with fail;refine(vR Pk.o at_ n hat hn).mono ?_;rintro e w2 ⟨rfl,hb2⟩;rw[Ge.o];have x2:w2.cell? ⟨bx,0,none⟩=some (.pointer (some ⟨r,0,none⟩)):=(hb2.cell (p:=⟨bx,0,none⟩) (bE _ _ x1)).trans x1;have cu:=aa (show Below w.heap.size w w2 from av bA.o hb2);have jB:=aa (show aG w2 bx 44 #[.pointer (some ⟨r,0,none⟩)] from dF.o.ah hb2);clear hb2;go_wp2_with fail;go_ret2;exact⟨⟨none,0,rfl,fun h=>absurd rfl h,aY _⟩,(aF p d).ak HD.o cu.o,aI.aW cu.o⟩
 | false=>
  have hres:g.read d at_ n=G8 g d (pieces d.dk.size n at_ n) []:=by unfold Rg.read;rw[if_neg (by rw[nK];simp),Int.toNat_natCast,Int.toNat_natCast]
  rw[hres];clear hres;have Ge:=aa nK;clear nK h;go_enter Tryz.func335,Tryz.ntmps335;go_wp2_with fail;obtain⟨bx,mr⟩:=ae w.heap.size;obtain⟨w1,a8⟩:=ae (w.alloc (.cells #[.pointer (some ⟨r,0,none⟩)] 44));have hb1:=aK a8;have ha1:=aJ a8 mr;rw[a8,mr];have x1:=ha1.cl 0;have kB:=HH.o.ah hb1;have y1:w1.cell? ⟨r,0,none⟩=some (.pointer (some ⟨p,0,none⟩)):=kB.own.cell 0;have bA:=aa hb1;have dF:=aa ha1;have Pk:=aa kB;have yf:=aa mr;clear hb1 ha1 kB mr a8;refine ag (nT r p w1 y1) ?_;go_wp2_with fail;refine(vR Pk.o at_ n hat hn).mono ?_;rintro e w2 ⟨rfl,hb2⟩;rw[Ge.o];have x2:w2.cell? ⟨bx,0,none⟩=some (.pointer (some ⟨r,0,none⟩)):=(hb2.cell (p:=⟨bx,0,none⟩) (bE _ _ x1)).trans x1;have cu:=aa (show Below w.heap.size w w2 from av bA.o hb2);have jB:=aa (show aG w2 bx 44 #[.pointer (some ⟨r,0,none⟩)] from dF.o.ah hb2);clear hb2;obtain⟨w3,hw3⟩:=ae (w2.alloc (.cells #[.slice none 0 0] 34));obtain⟨o,ho⟩:=ae w2.heap.size;have hb3:=aK hw3;have z3:(w2.alloc (.cells #[.slice none 0 0] 34)).cell? ⟨bx,0,none⟩=some (.pointer (some ⟨r,0,none⟩)):=by rw[hw3];exact(hb3.cell (p:=⟨bx,0,none⟩) (bE _ _ x2)).trans x2
  have HZ3:=aa z3;have hO3:=aJ hw3 ho;have hI:RdI S w w3.heap.size bx o r p d.dk.size g (G8 g d (pieces d.dk.size n at_ n) []) (pieces d.dk.size n at_ n) w3:=by
   have hb:Below w.heap.size w w3:=av cu.o hb3;refine⟨HH.o.ah hb,(hb3.cell (p:=⟨bx,0,none⟩) (bE _ _ x2)).trans x2,aY _,⟨d,[],.slice none 0 0,(aF p d).ak HD.o hb,HDK.o,rfl,hO3,World.ownsRow_nil _ _ _ _,rfl,?_⟩,pM _ HDK.o.size.1 _ _ _ (aY _),aI.aW hb⟩;rw[nE _ HDK.o.size.1 _ _ _ (aY _)];simpa using hn
  have hRO:RdO S w w3.heap.size bx o r:=by
   have h1:=cu.o.size;have h2:o<w3.heap.size:=hO3.lt;have h3:bx<o:=by rw[←ho];exact bE _ _ x2
   have h4:=yf.o;exact⟨⟨ai,ai⟩,⟨ai,h2,ai⟩,⟨HH.o.own.lt,HR.o⟩,HS.o⟩
  have HI:=aa hI;have HRO:=aa hRO;have MO:=aa hw3;have HOO:=aa ho;clear hb3 hO3 hI hRO hw3;go_wp2_with fail;rw[MO.o];refine(QU w3 #[.pointer (some ⟨bx,0,none⟩),.pointer (some ⟨o,0,none⟩)] at_ n (RdI S w w3.heap.size bx o r p d.dk.size g (G8 g d (pieces d.dk.size n at_ n) [])) (RdE S w p (G8 g d (pieces d.dk.size n at_ n) [])) HDK.o.size HH.o.Oe ?_ (fun ps W h=>h.rg) (fun x ps W h=>aek HRO.o h) HI.o).mono ?_
  ·have:=Ge.o;unfold Rg.bad at this;have hbl:=HH.o.eU;simp only[Bool.or_eq_false_iff,decide_eq_false_iff_not] at this;omega
  rintro e w4 hor;rcases hor with⟨rfl,h4⟩|⟨er,o6,rfl,h4⟩
  ·obtain⟨d',acc,v,hD4,_,_,hv4,Ja,Js,_⟩:=h4.body;have nV:=aa Js;obtain⟨A4,c4,rfl⟩:=cB Ja;have y4:w4.cell? ⟨o,0,none⟩=some (.slice A4 acc.length c4):=hv4.cell 0;have HF:=aa (show PRd S p (0,acc,d') w (.returned (.tuple #[.slice A4 acc.length c4,.int .i64 0])) w4 from by
    refine⟨⟨A4,c4,rfl,fun hne=>?_,?_⟩,hD4,h4.cR⟩
    ·rcases Ja.2 with⟨e0,e1⟩|⟨g4,cap,cur,e0,e1,e2,e3,e4,e5,e6⟩
     ·exact absurd (List.eq_nil_of_length_eq_zero e1) hne
     injection e0 with e0 _ e7
     subst e0 e7;have cL:=mW Ja rfl;exact⟨g4,rfl,aV (aV HRO.o.ho.1 (Nat.le_of_lt HRO.o.ho.2.1)) cL.2.2.1,cL.1⟩
    rcases Ja.2 with⟨e0,e1⟩|⟨g4,cap,cur,e0,e1,e2,e3,e4,e5,e6⟩
    ·show acc.length≤c4;omega
    injection e0 with e0 _ e7
    subst e0 e7;exact e3)
   clear h4 hD4 hv4 Ja Js HI;go_wp2_with fail;go_ret2;rw[nV.o];exact HF.o
  obtain⟨d',Js,hD4,jK⟩:=h4;have nV:=aa Js;have hq:(er==0)=false:=wY;have HF:=aa (show PRd S p (er,[],d') w (.returned (.tuple #[.slice none 0 0,.int .i64 er])) w4 from⟨⟨none,0,rfl,fun h=>absurd rfl h,aY _⟩,hD4,jK⟩);clear Js hD4 jK HI o6;go_wp2_with fail;go_ret2;rw[nV.o];exact HF.o
end En
end
section
namespace Rf
open En (xX BG pL)
theorem aa2(n s:Nat)(hn:1≤n∧n≤65536)(hs:s=64∨s=128)(w:World): Calls af 226 #[.int .i64 n,.int .i64 s] w fun e w'=>e= .returned (.bool true)∧Below w.heap.size w w':=by
 have h1:(1:Int)≤(n:Int):=ai;have h2:(n:Int)≤65536:=ai;have e1:aX bl aN 64 63=0:=aM;have e2:aX bl aN 128 127=0:=aM;rcases hs with rfl|rfl
 ·go_enter Tryz.func226,Tryz.ntmps226;exact Vj
 go_enter Tryz.func226,Tryz.ntmps226;exact Vg
structure RH(w wr:World)(p s k:Nat)(v:Value)(ad cp:Nat→Nat): Prop where
 own:aG wr p 335 #[v,.slice none 0 0]
 row:aP (fun g=>w.heap.size≤g) wr 34 1 v k (fun i=>[.slice (some ⟨ad i,0,none⟩) s (cp i)])
 each: ∀ i,i<k→jO wr 5 (ad i) (dT s 0)∧s≤cp i∧w.heap.size≤ad i
 alone: ∀ i j,i<k→j<k→ad i=ad j→i=j
 ak:Below w.heap.size w wr
 news:w.heap.size≤p
def adE(n s:Nat)(w:World)(e:Ending)(w':World): Prop:=∃ p v ad cp,e= .returned (.tuple #[.pointer (some ⟨p,0,none⟩),.int .i64 0])∧RH w w' p s n v ad cp
theorem aa0(n s:Nat)(hn:1≤n∧n≤65536)(hs:s=64∨s=128)(w:World): Calls af 116 #[.int .i64 n,.int .i64 s] w (adE n s w):=by
 obtain⟨i0,CB,hz0,hz1,hz2⟩:=info_parts Oc.e8;obtain⟨j0,OI,hy0,hy1,YU⟩:=info_parts pL;have HM:=aa (aa2 n s hn hs);have sZ:(n:Int)≤65536:=ai;have hs0:(0:Int)≤(s:Int):=ai;have hs1:(s:Int)≤128:=by rcases hs with rfl|rfl <;>simp
 have HN:=aa hn;have HS:=aa hs;have HS0:=aa (show 0<s by rcases hs with rfl|rfl <;>decide);clear hs hn;obtain⟨p,hp⟩:=ae w.heap.size;obtain⟨w1,a8⟩:=ae (w.alloc (.cells #[.slice none 0 0,.slice none 0 0] 335));have dF:=aa (aJ a8 hp);have Pq:=aa (aK a8);have HP:=aa (show w.heap.size≤p from ai);go_enter Tryz.func116,Tryz.ntmps116;go_wp2_with fail;refine(HM.o w1).mono ?_;rintro e w2 ⟨rfl,hb2⟩;have hst:RH w w2 p s 0 (.slice none 0 0) (fun _=>0) (fun _=>0):=
  ⟨dF.o.ah hb2,aP.nil _ _ _ _ _,fun i hi=>absurd hi (gw i),fun i j hi=>absurd hi (gw i),av Pq.o hb2,HP.o⟩
 have HST:=aa hst;clear hb2 HM hst a8 hp dF Pq HP;go_wp2_with fail;go_loopw [7] (fun i wr=>∃ (k:Nat) (v:Value) (ad cp:Nat→Nat),k≤n∧i= .int .i64 k∧RH w wr p s k v ad cp) (fun i _=>(n - intOf i).toNat)
 case atStart=>exact⟨0,_,_,_,ai,rfl,HST.o⟩
 case round=>
  obtain⟨k,v,ad,cp,hk,rfl,hI⟩:=hrel;have HI:=aa hI;clear hI HST;by_cases h:k<n
  ·have h':(k:Int)<(n:Int):=by omega
   have x1:wr.cell? ⟨p,0,none⟩=some v:=HI.o.own.cell 0;go_wp2_with fail;refine dL bh ?_;refine bm.any (S:=(fun w'=>w'.cell? ⟨p,0,none⟩=some v)) (t:=11) _ _ _ _ ?_;have hHeld:=(show(fun w'=>w'.cell? ⟨p,0,none⟩=some v) wr.drew from x1);refine tt 0 ?_;refine tt 1 ?_;refine tt 2 ?_;refine tt 3 ?_;refine tt 4 ?_;refine tt 5 ?_;refine bm.step (i:=6) bh bh rfl (fun K hK=>?_);rw[if_pos iI];refine mS _ (.tmp 25) (.tmp 25) 34 rfl 5 i0 (.int .u8 0) 1 fM CB hz0 hz1 rfl aM s rfl rfl Az jR ?_;intro w4 hr4 hg4;have Mf:Below wr.heap.size wr w4:=Below.grown (az (ar _ _)) hg4 (aY _) dM;have x4:w4.cell? ⟨p,0,none⟩=some v:=(Mf.cell (p:=⟨p,0,none⟩) HI.o.own.lt).trans x1;have hz4:wr.heap.size<w4.heap.size:=abE;have nV:=aa hr4;have gj:=aa Mf;have HZ4:=aa hz4;clear hr4 hg4 Mf hz4;refine hK.out _ _ Dl (fun qw=>?_);clear hK K;try simp only[aZ]
   refine bm.step (i:=7) bh bh rfl (fun K hK=>?_);have dU:Below wr.heap.size wr (w4.alloc (.cells #[.slice (some ⟨wr.heap.size,0,none⟩) s s] 34)):=ay gj.o _;have x5:(w4.alloc (.cells #[.slice (some ⟨wr.heap.size,0,none⟩) s s] 34)).cell? ⟨p,0,none⟩=some v:=(dU.cell (p:=⟨p,0,none⟩) HI.o.own.lt).trans x1;have eu:=aa dU;clear dU;go_simp;go_wp2_with fail;refine hK.out _ _ Dl (fun o8=>?_);clear hK K;try simp only[aZ]
   refine bm.step (i:=8) bh bh rfl (fun K hK=>?_);rw[if_pos iI];refine fu _ (.tmp 24) (.tmp 27) 33 rfl 34 j0 (.slice none 0 0) 1 24 Tryz.underlying33 OI hy0 hy1 YU rfl aM v k (fun i=>[.slice (some ⟨ad i,0,none⟩) s (cp i)]) rfl (HI.o.row.ah eu.o) ⟨w4.heap.size,0,none⟩ 1 [.slice (some ⟨wr.heap.size,0,none⟩) s s] rfl rfl (iQ w4 _ _) EY jR ai ?_;intro ga ca w6 Cy kr;have OA:=eu.o.size;have RS: ∀ {g:Nat} {o:Obj},wr.heap[g]? =some o→(∀ c,o≠ .cells c 34 (0,0))→w6.heap[g]? =wr.heap[g]?:=fun {g o} ho hne=>by
    exact Vq
   have zw:aG w6 p 335 #[v,.slice none 0 0]:=(RS HI.o.own (fun c e=>yr)).trans HI.o.own;have he6: ∀ i,i<k→jO w6 5 (ad i) (dT s 0):=fun i hi=>(HI.o.each i hi).1.same abB
   have hn6:jO w6 5 wr.heap.size (dT s 0):=by
    exact acr
   have Wi:Below w.heap.size w w6:=(av HI.o.ak eu.o).grown kr Tk (fun g e=>HI.o.row.block g e);have m6:=zw.mark 0;have z6:=zw.cl 0;have zv:p≠ga:=Cy.rY rfl zw (fun c e=>yr);have HR6:=aa Cy;have MU:=aa zw;have HE6:=aa he6;have KB:=aa hn6;have iL:=aa Wi;have HPG:=aa zv;clear Cy kr RS zw he6 hn6 Wi zv OA;refine hK.out _ _ Dl (fun qu=>?_);clear hK K;try simp only[aZ]
   refine tp 9 ?_;refine tt 10 ?_;refine bm.last bh ?_;refine kD 11 bh bh ?_;simp only[tD,GQ];have hf:RH w (w6.setCell ⟨p,0,none⟩ (.slice (some ⟨ga,0,none⟩) (k+1) ca)) p s (k+1) (.slice (some ⟨ga,0,none⟩) (k+1) ca) (cK ad k wr.heap.size) (cK cp k s):=by
    have hpw:w.heap.size≤p:=HI.o.news;have hsc: ∀ g,g≠p→(w6.setCell ⟨p,0,none⟩ (.slice (some ⟨ga,0,none⟩) (k+1) ca)).heap[g]? =w6.heap[g]?:=fun g hg=>dJ w6 ⟨p,0,none⟩ _ g hg
    have aaj: ∀ {g:Nat},jO w6 5 g (dT s 0)→g≠p:=fun {g} hb e=>by
     obtain⟨cur,hc,_⟩:=hb;have h2:=MU.o;rw[aG,←e,hc] at h2;injection h2 with h2
     injection h2 with _ h3
     revert h3;decide
    have hwr:w.heap.size≤wr.heap.size:=HI.o.ak.size;refine⟨by simpa using MU.o.put 0 (.slice (some ⟨ga,0,none⟩) (k+1) ca),?_,fun i hi=>?_,fun i j hi hj he=>?_,eD iL.o hpw _,HI.o.news⟩
    ·have h1:=(HR6.o.mono (T:=fun g=>w.heap.size≤g) (fun g hg _=>by
      rcases hg with hg|hg
      ·exact hg
      have:=eu.o.size;omega)).Ou (hsc ga (Ne.symm HPG.o))
     exact acp
    ·by_cases e:i=k
     ·subst e;rw[bL,bL];exact⟨KB.o.same (hsc _ (aaj KB.o)),aY _,hwr⟩
     exact abU
    exact acu
   exact ab4
  have h': ¬(k:Int)<(n:Int):=ai;have Ma:k=n:=ai;have hd:=HI.o;rw[Ma] at hd;have HF:=aa (show adE n s w (.returned (.tuple #[.pointer (some ⟨p,0,none⟩),.int .i64 0])) wr from⟨p,_,_,_,rfl,hd⟩);clear hd Ma;go_wp2_with fail;go_ret2;exact HF.o
