import Derived.Test.YtemighjbfanenaaGreatDoorPk18
import Derived.StillTailTactics
set_option linter.all false
set_option maxRecDepth 100000
set_option maxHeartbeats 16000000
namespace Go.Proofs.YtemighjbfanenaaGreatDoor
open RowKit
open Oc (Bs gj fJ aN eh bn bO rU eZ dm mV dX)
open En (By)
open Go renaming bits→bm
open Go.BinOp renaming and→bH
open Go.IntKind renaming i64→aT
open Go.World renaming block_lt_of_cell?→bz,cell?_of_block→eF
open Int renaming tmod_eq_emod_of_nonneg→acn,tdiv_eq_ediv_of_nonneg→aco,natCast_add→QA
open List renaming length_replicate→kT,replicate→dW,drop_succ_cons→tE,mem_cons_of_mem→gy,drop_zero→Hl,getD_eq_getElem?_getD→bQ
open Nat renaming le_trans→bf,not_lt_zero→kU,lt_of_lt_of_le→aP,le_refl→aL
open RowKit.Below renaming refl→aq,heap_setCell→cH
open Tryz renaming prog→af,underlying34→ey
open _root_.Array renaming getElem?_eq_some_iff→eP
theorem adI{p:Prop}(h:p:=by
 have HI:=aa hI;have HF:=aa hf;have H0:=aa h0;have hn':(at_:Int)+(n:Int)≤268435456:=ag;have hs1:(1:Int)≤(size:Int):=ag;have hs2:(size:Int)≤4096:=ag;have WW:((size:Int)==0)=false:=mK;clear hI hf h0;go_enter Tryz.func328,Tryz.ntmps328;go_wp2_with fail;go_loopw [1] (fun a wr=>∃ b m k:Nat,m≤k∧b+m=at_+n∧a= .int .i64 b∧I (pieces size k b m) wr) (fun a _=>(at_+n - intOf a).toNat)
 case atStart=>exact⟨at_,n,n,aL _,rfl,rfl,H0.o⟩
 case round=>
  obtain⟨b,m,k,hmk,hbm,rfl,hP⟩:=hrel;have HP:=aa hP;clear hP;rcases Nat.eq_zero_or_pos m with hm0|hm0
  ·subst hm0;have hlt: ¬(b:Int)<(at_:Int)+(n:Int):=ag;have Gg: ¬b<at_+n:=ag;have lF:I [] wr:=by
    have:=HP.o;cases k with
    | zero=>exact this
    | succ k=>rwa [pieces,if_pos rfl] at this
   have HFN:=aa lF;clear lF;go_wp2_with fail;go_ret;exact .inl ⟨rfl,HFN.o⟩
  obtain⟨k,rfl⟩: ∃ k',k=k'+1:=⟨k - 1,ag⟩;obtain⟨s,f,t,d,e1,e2,e3,e4,hft,hts,Xx,hdm,aiC,hps⟩:=uF size k b m hsz.1 hm0 hmk;rw[hps] at HP;have hR:=HI.o _ _ HP.o;have x1:=hR.own.cl 1;have x3:=hR.own.cl 3;have hlt:(b:Int)<(at_:Int)+(n:Int):=ag;have q1:(b:Int).tdiv (size:Int)=(s:Int):=by rw[aco ag,←e1];simp
  have q2:(b:Int).tmod (size:Int)=(f:Int):=by rw[acn ag,←e2];simp
  have q1':(b:Int) / (size:Int)=(s:Int):=by rw[←e1];simp
  have q2':(b:Int) % (size:Int)=(f:Int):=by rw[←e2];simp
  have hb0:(0:Int)≤(b:Int):=ag;have k8:s≤b:=by rw[←e1];exact Nat.div_le_self _ _
  have anX:(s:Int)≤(b:Int):=ag;have lM:(f:Int)<(size:Int):=ag;have hg':(g.from_:Int)≤65536:=ag;clear hR;by_cases hc:f+m<size
  ·have htm:t=f+m:=by omega
   have e5:(f:Int)+((at_:Int)+(n:Int)) - (b:Int)=(t:Int):=ag;have alQ:(t:Int)<(size:Int):=ag;clear hc;go_wp2_with fail;have HG:=HF.o ⟨s,f,t⟩ _ wr HP.o;simp only[htm,QA] at HG;refine HG.mono ?_;clear HG;rintro e w1 hor;rcases hor with⟨rfl,lf⟩|⟨er,oU,rfl,hE1⟩
   ·have wK:=aa lf;clear lf;go_wp2_with fail;go_roundw
    case rel=>exact⟨b+d,m - d,k,aiC,ag,by go_num,wK.o⟩
    case measure=>simp[intOf];omega
   have hq:(er==0)=false:=wW;have vy:=aa hE1;have HER:=aa oU;clear hE1 oU;go_wp2_with fail;go_ret;exact .inr ⟨er,HER.o,rfl,vy.o⟩
  have htm:t=size:=ag;have alQ: ¬(f:Int)+((at_:Int)+(n:Int)) - (b:Int)<(size:Int):=ag;clear hc;subst htm;go_wp2_with fail;have HG:=HF.o ⟨s,f,t⟩ _ wr HP.o;simp only[QA] at HG;refine HG.mono ?_;clear HG;rintro e w1 hor;rcases hor with⟨rfl,lf⟩|⟨er,oU,rfl,hE1⟩
  ·have wK:=aa lf;clear lf;go_wp2_with fail;go_roundw
   case rel=>exact⟨b+d,m - d,k,aiC,ag,by go_num,wK.o⟩
   case measure=>simp[intOf];omega
  have hq:(er==0)=false:=wW;have vy:=aa hE1;have HER:=aa oU;clear hE1 oU;go_wp2_with fail;go_ret;exact .inr ⟨er,HER.o,rfl,vy.o⟩):p:=h
theorem Je{p:Prop}(h:p:=by
 rintro e w1 ⟨rfl,hw⟩;have HW:=aa hw;clear hw;go_wp2_with fail;go_ret;exact⟨rfl,HW.o⟩):p:=h
theorem adq{p:Prop}(h:p:=by
 have hlt: ∀ i,i<k→ad i<wr.heap.size:=fun i hi=>(HI.o.each i hi).1.lt
 by_cases e1:i=k <;>by_cases e2:j=k
 ·omega
 ·subst e1;rw[bJ,bj _ _ e2] at he;have:=hlt j ag;omega
 ·subst e2;rw[bJ,bj _ _ e1] at he;have:=hlt i ag;omega
 rw[bj _ _ e1,bj _ _ e2] at he;exact HI.o.alone i j ag ag he):p:=h
theorem ado{p:Prop}(h:p:=by
 have Z':=oI.o.own;have hb4:eC w4 5 wr.heap.size (dW s 0):=(Oc.mV (bs:=dW s 0) aeS (kT)).1;obtain⟨cur,hc,yY⟩:=hb4;refine⟨cur,(jG.block _ (by have:=HZ4.o;simp;omega) (fun e=>?_)).trans ((Below.heap_alloc w4 _ _ HZ4.o).trans hc),yY⟩;have hlt:=(dP HI.o.row.own e.symm).1;omega):p:=h
theorem adm{p:Prop}(h:p:=by
 refine⟨?_,h1.block⟩;have h2:=h1.own;rw[iT (d:=fun i=>[.slice (some ⟨cO ad k wr.heap.size i,0,none⟩) s (cO cp k s i)]) (fun i hi=>?_)] at h2
 ·exact h2
 by_cases e:i=k
 ·subst e;rw[bJ,bJ,bJ]
 rw[bj _ _ e,bj _ _ e,bj _ _ e]):p:=h
theorem adk{p:Prop}(h:p:=by
 go_wp2_with fail;refine HM.o.mono ?_;rintro e w1 ho;obtain⟨he,hd,ht⟩:=pL HH.o ho;rw[HOP.o] at he;subst he;have HF:=aa (show dI p d.op.2 (Gr S w w1) w1∧aG S w w1 from⟨(HL.o _).Ag ⟨kp,SK,hd⟩ HS.o ht.size,ht⟩);clear ho hd ht;go_wp2_with fail;go_ret;exact⟨rfl,HF.o⟩):p:=h
theorem ac9{p:Prop}(h:p:=by
 have HF:=aa hf;have HC:=aa hc1;clear h hd ho hf hc1;go_enter Tryz.func121,Tryz.ntmps121;go_wp2_with fail;refine ah (B8 p kp w x0) ?_;go_wp2_with fail;go_ret;exact HF.o _ (by rw[←HC.o,ahr])):p:=h
theorem ac0{p:Prop}(h:p:=by
 have HF:=aa hf;clear hf;go_wp2_with fail;go_roundw
 case rel=>exact⟨k+1,_,_,_,ag,by go_num,HF.o⟩
 case measure=>simp[intOf];omega):p:=h
theorem acZ{p:Prop}(h:p:=by
 go_wp2_with fail;refine ah (B8 p kp w x0) ?_;go_wp2_with fail;refine ah HS.o ?_;go_wp2_with fail;go_ret;exact⟨rfl,rfl⟩):p:=h
theorem acR{p:Prop}(h:p:=by
 go_enter Tryz.func121,Tryz.ntmps121;go_wp2_with fail;refine ah (B8 p kp w x0) ?_;go_wp2_with fail;go_ret;exact HF.o):p:=h
theorem acP{p:Prop}(h:p:=by
 rw[bj _ _ e,bj _ _ e];have hb:=HE6.o i ag;exact⟨hb.same (hsc _ (aa4 hb)),(HI.o.each i ag).2⟩):p:=h
theorem Wy{p:Prop}(h:p:=by
 have oT:=(eP.1 ho).1;exact(jG.block g ag (fun e=>HI.o.row.rX e.symm ho hne rfl)).trans (eQ.o.block g oT)):p:=h
theorem Wq{p:Prop}(h:p:=by
 go_wp2_with fail;go_ret;exact⟨kF (a:=decide ((n:Int)*64≤67108864)) (decide_eq_true ag),aq _ _⟩):p:=h
theorem Wn{p:Prop}(h:p:=by
 go_wp2_with fail;go_ret;exact⟨kF (a:=decide ((n:Int)*128≤67108864)) (decide_eq_true ag),aq _ _⟩):p:=h
theorem Wh{p:Prop}(h:p:=by
 go_wp2_with fail;go_quiet (fail);go_wp2_with fail;go_ret;exact⟨rfl,bK (aq _ _) _⟩):p:=h
theorem mK{p:Prop}(h:p:=by rw[beq_eq_false_iff_ne];omega):p:=h
theorem acz{p:Prop}(h:p:=by obtain⟨g,cap,e,he,_,_,hlt⟩:=hr4.form HS0.o;injection e with e;injection e with e;have e2:g=wr.heap.size:=he;omega):p:=h
theorem acv{p:Prop}(h:p:=by obtain⟨cur,hc,_⟩:=(HI.o.each i hi).1;exact S8 hc (fun c e=>by injection e with _ e2;revert e2;decide)):p:=h
theorem DO{p:Prop}(h:p:=by first|exact x4|exact x5|exact z6):p:=h
theorem AU{p:Prop}(h:p:=by intro u hu;simp at hu;subst hu;rfl):p:=h
theorem aeS{p:Prop}(h:p:=by rw[xW];have:=Z';rw[BN] at this;exact this):p:=h
theorem Ux{p:Prop}(h:p:=by obtain⟨kp,SK,h1⟩:=hD;obtain⟨q,h2⟩:=h1.Dq;exact h2.ok):p:=h
theorem Us{p:Prop}(h:p:=by have:=(ar HI.o.ai eQ.o).size;exact this):p:=h
theorem wW{p:Prop}(h:p:=by simp[oU]):p:=h
theorem Fg{p:Prop}(h:p:=by rw[←hd];exact h.cell 1):p:=h
theorem wU{p:Prop}(h:p:=by simpa using h1):p:=h
section
namespace En
theorem F3(n s:Nat)(hn:1≤n∧n≤65536)(hs:s=64∨s=128)(w:World): Calls af 224 #[.int .i64 n,.int .i64 s] w fun e w'=>e= .returned (.bool true)∧Below w.heap.size w w':=by
 have h1:(1:Int)≤(n:Int):=ag;have h2:(n:Int)≤65536:=ag;have e1:bm bH aT 64 63=0:=aM;have e2:bm bH aT 128 127=0:=aM;rcases hs with rfl|rfl
 ·go_enter Tryz.func224,Tryz.ntmps224;exact Wq
 go_enter Tryz.func224,Tryz.ntmps224;exact Wn
def J2(n s:Nat): Dk:=⟨s,dW n (dW s 0),[]⟩
def ahn(n s:Nat)(w:World)(e:Ending)(w':World): Prop:=∃ p S,e= .returned (.tuple #[.pointer (some ⟨p,0,none⟩),.int .i64 0])∧ve p (J2 n s) S w'∧(∀ k,S k→w.heap.size≤k)∧Below w.heap.size w w'
theorem gz: (af.info? 34).map (fun i=>(i.zero,i.size,i.bytes))=some (some (.slice none 0 0),1,24):=aW
theorem VK(s:Nat)(dr:List By)(q:ES): n9 ⟨s,dr,[]⟩ q=fun _=>none:=by funext z;unfold n9;split <;>rfl
structure YO(w wr:World)(p mb s k:Nat)(v:Value)(ad cp:Nat→Nat): Prop where
 own:aD wr p 331 #[.int .i64 s,v,.slice none 0 0,.map (some mb)]
 row:aO (fun g=>w.heap.size≤g) wr 34 1 v k (fun i=>[.slice (some ⟨ad i,0,none⟩) s (cp i)])
 each: ∀ i,i<k→eC wr 5 (ad i) (dW s 0)∧s≤cp i∧w.heap.size≤ad i
 alone: ∀ i j,i<k→j<k→ad i=ad j→i=j
 map:fG af 3 .i64 wr mb 0 (fun _=>none)
 ai:Below w.heap.size w wr
 news:w.heap.size≤p∧w.heap.size≤mb
theorem YO.done{w wr:World}{p mb s n:Nat}{v:Value}{ad cp:Nat→Nat}(h:YO w wr p mb s n v ad cp)(hn:1≤n∧n≤65536)(hs:1≤s∧s≤4096): ve p (J2 n s) (fun k=>w.heap.size≤k∧k<wr.heap.size) wr:=by
 obtain⟨gd,cd,rfl,_,_,_,oT⟩:=h.row.form ag;have hl:(J2 n s).dr.length=n:=kT;have hg: ∀ i,i<n→(J2 n s).dr.getD i []=dW s 0:=fun i hi=>by unfold J2;simp only;rw[bQ,List.getElem?_replicate,if_pos hi];rfl
 refine⟨⟨gd,cd,ad,cp,.slice none 0 0,mb,0,fun _=>0,fun _=>0⟩,?_,?_,fun i hi=>?_,aO.nil _ _ _ _ _,fun i hi=>absurd hi (kU i),?_,⟨hs,by rw[hl];exact hn,fun b hb=>?_,fun x hx=>by cases hx⟩,⟨⟨h.news.1,h.own.lt⟩,⟨h.news.2,h.map.lt⟩,fun i hi=>?_,fun i hi=>absurd hi (kU i)⟩,⟨fun i j hi hj=>?_,fun i j _ hj=>absurd hj (kU j)⟩,fun k hk=>hk.2,aL _⟩
 ·show aD wr p _ #[.int .i64 s,.slice (some ⟨gd,0,none⟩) (J2 n s).dr.length cd,.slice none 0 0,.map (some mb)]
  rw[hl];exact h.own
 ·show aO _ wr _ 1 (.slice (some ⟨gd,0,none⟩) (J2 n s).dr.length cd) (J2 n s).dr.length _
  rw[hl];exact h.row.mono fun g hg hg2=>⟨hg,hg2⟩
 ·rw[hl] at hi;rw[hg i hi];exact⟨(h.each i hi).1,(h.each i hi).2.1⟩
 ·rw[show n9 (J2 n s) _=fun _=>none from VK s _ _];exact h.map
 ·obtain rfl:=List.eq_of_mem_replicate hb;exact kT
 ·rw[hl] at hi;exact⟨(h.each i hi).2.2,(h.each i hi).1.lt⟩
 rw[hl] at hi hj;exact h.alone i j hi hj
theorem xW(s:Nat): aN (dW s 0)=dW s (.int .u8 0):=by unfold aN;rw[List.map_replicate];rfl
theorem BN(s:Nat): flat (fun _=>(Value.int .u8 0).cells.toList) s=dW s (.int .u8 0):=by
 induction s with
 | zero=>rfl
 | succ s ih=>rw[flat,ih,List.replicate_succ'];rfl
theorem uU(n s:Nat)(hn:1≤n∧n≤65536)(hs:s=64∨s=128)(w:World): Calls af 114 #[.int .i64 n,.int .i64 s] w (ahn n s w):=by
 obtain⟨i0,yZ,hz0,hz1,hz2⟩:=info_parts Oc.dX;obtain⟨j0,Ta,hy0,hy1,Z6⟩:=info_parts gz;have HM:=aa (F3 n s hn hs);have Xj:=@run_makeMap af;have pN:(n:Int)≤65536:=ag;have hs0:(0:Int)≤(s:Int):=ag;have hs1:(s:Int)≤128:=by rcases hs with rfl|rfl <;>simp
 have HN:=aa hn;have HS:=aa hs;have HS0:=aa (show 0<s by rcases hs with rfl|rfl <;>decide);clear hs hn;go_enter Tryz.func114,Tryz.ntmps114;go_wp2_with fail;refine(HM.o w).mono ?_;rintro e w1 ⟨rfl,hb1⟩;have bu:=aa hb1;clear hb1 HM;go_wp2_with fail;obtain⟨p,hp⟩:=ae (w1.heap.size+1);obtain⟨mb,MW⟩:=ae w1.heap.size;obtain⟨w2,hw2⟩:=ae ((w1.alloc (.map #[] 0)).alloc (.cells #[.int .i64 s,.slice none 0 0,.slice none 0 0,.map (some w1.heap.size)] 331));have hst:YO w w2 p mb s 0 (.slice none 0 0) (fun _=>0) (fun _=>0):=by
  have hz:=bu.o.size;refine⟨?_,aO.nil _ _ _ _ _,fun i hi=>absurd hi (kU i),fun i j hi=>absurd hi (kU i),?_,?_,ag,ag⟩
  ·rw[←hw2,←MW];exact aD.new fH
  ·rw[←hw2,←MW];exact(fG.made af _ _ w1).keep (aw (aq _ _) _)
  rw[←hw2];exact aw (aw bu.o _) _
 rw[hw2,hp];have HST:=aa hst;clear hst hw2 hp MW bu;go_loopw [16] (fun i wr=>∃ (k:Nat) (v:Value) (ad cp:Nat→Nat),k≤n∧i= .int .i64 k∧YO w wr p mb s k v ad cp) (fun i _=>(n - intOf i).toNat)
 case atStart=>exact⟨0,_,_,_,ag,rfl,HST.o⟩
 case round=>
  obtain⟨k,v,ad,cp,hk,rfl,hI⟩:=hrel;have HI:=aa hI;clear hI;by_cases h:k<n
  ·have h':(k:Int)<(n:Int):=by omega
   have x1:=HI.o.own.cl 1;go_wp2_with fail;refine dN aW ?_;refine bc.any (S:=(fun w'=>w'.cell? ⟨p,1,none⟩=some v)) (t:=11) _ _ _ _ ?_;have hHeld:=(show(fun w'=>w'.cell? ⟨p,1,none⟩=some v) wr.drew from x1);refine tt 0 ?_;refine tt 1 ?_;refine tt 2 ?_;refine tt 3 ?_;refine tt 4 ?_;refine tt 5 ?_;refine bc.step (i:=6) aW aW rfl (fun K hK=>?_);rw[if_pos iN];refine mP _ (.tmp 23) (.tmp 23) 34 rfl 5 i0 (.int .u8 0) 1 ey yZ hz0 hz1 rfl aM s rfl rfl AG iM ?_;intro w4 hr4 hg4;have M6:Below wr.heap.size wr w4:=Below.grown (ay (aq _ _)) hg4 (aL _) dA;have x4:w4.cell? ⟨p,1,none⟩=some v:=(M6.cell (p:=⟨p,1,none⟩) HI.o.own.lt).trans x1;have hz4:wr.heap.size<w4.heap.size:=acz;have oI:=aa hr4;have gI:=aa M6;have HZ4:=aa hz4;clear hr4 hg4 M6 hz4;refine hK.out _ _ DO (fun qp=>?_);clear hK K;try simp only[aQ]
   refine bc.step (i:=7) aW aW rfl (fun K hK=>?_);have dR:Below wr.heap.size wr (w4.alloc (.cells #[.slice (some ⟨wr.heap.size,0,none⟩) s s] 34)):=aw gI.o _;have x5:(w4.alloc (.cells #[.slice (some ⟨wr.heap.size,0,none⟩) s s] 34)).cell? ⟨p,1,none⟩=some v:=(dR.cell (p:=⟨p,1,none⟩) HI.o.own.lt).trans x1;have eQ:=aa dR;clear dR;go_simp;go_wp2_with fail;refine hK.out _ _ DO (fun nK=>?_);clear hK K;try simp only[aQ]
   refine bc.step (i:=8) aW aW rfl (fun K hK=>?_);rw[if_pos iN];refine fA _ (.tmp 22) (.tmp 25) 33 rfl 34 j0 (.slice none 0 0) 1 24 Tryz.underlying33 Ta hy0 hy1 Z6 rfl aM v k (fun i=>[.slice (some ⟨ad i,0,none⟩) s (cp i)]) rfl (HI.o.row.keep eQ.o) ⟨w4.heap.size,0,none⟩ 1 [.slice (some ⟨wr.heap.size,0,none⟩) s s] rfl rfl (ik w4 _ _) AU iM ag ?_;intro ga ca w6 CK jG;have KX:=eQ.o.size;have S8: ∀ {g:Nat} {o:Obj},wr.heap[g]? =some o→(∀ c,o≠ .cells c 34 (0,0))→w6.heap[g]? =wr.heap[g]?:=fun {g o} ho hne=>by
    exact Wy
   have zz:aD w6 p 331 #[.int .i64 s,v,.slice none 0 0,.map (some mb)]:=(S8 HI.o.own (fun c e=>yt)).trans HI.o.own;have CM:fG af 3 .i64 w6 mb 0 (fun _=>none):=HI.o.map.same (by obtain⟨es,c,hb⟩:=HI.o.map.obj;exact S8 hb (fun c e=>rL));have he6: ∀ i,i<k→eC w6 5 (ad i) (dW s 0):=fun i hi=>(HI.o.each i hi).1.same acv
   have hn6:eC w6 5 wr.heap.size (dW s 0):=by
    exact ado
   have Xz:Below w.heap.size w w6:=(ar HI.o.ai eQ.o).grown jG Us (fun g e=>HI.o.row.block g e);have m6:=zz.mark 1;have z6:=zz.cl 1;have zy:p≠ga:=CK.rX rfl zz (fun c e=>yt);have HR6:=aa CK;have NS:=aa zz;have HM6:=aa CM;have HE6:=aa he6;have Le:=aa hn6;have jy:=aa Xz;have HPG:=aa zy;clear CK jG S8 zz CM he6 hn6 Xz zy KX;refine hK.out _ _ DO (fun nJ=>?_);clear hK K;try simp only[aQ]
   refine tp 9 ?_;refine tt 10 ?_;refine bc.last aW ?_;refine kI 11 aW aW ?_;simp only[tE,Hl];have hf:YO w (w6.setCell ⟨p,1,none⟩ (.slice (some ⟨ga,0,none⟩) (k+1) ca)) p mb s (k+1) (.slice (some ⟨ga,0,none⟩) (k+1) ca) (cO ad k wr.heap.size) (cO cp k s):=by
    have hpw:w.heap.size≤p:=HI.o.news.1;have hsc: ∀ g,g≠p→(w6.setCell ⟨p,1,none⟩ (.slice (some ⟨ga,0,none⟩) (k+1) ca)).heap[g]? =w6.heap[g]?:=fun g hg=>cH w6 ⟨p,1,none⟩ _ g hg
    have aa4: ∀ {g:Nat},eC w6 5 g (dW s 0)→g≠p:=fun {g} hb e=>by
     obtain⟨cur,hc,_⟩:=hb;have h2:=NS.o;rw[aD,←e,hc] at h2;injection h2 with h2
     injection h2 with _ h3
     revert h3;decide
    have hwr:w.heap.size≤wr.heap.size:=HI.o.ai.size;refine⟨by simpa using NS.o.put 1 (.slice (some ⟨ga,0,none⟩) (k+1) ca),?_,fun i hi=>?_,fun i j hi hj he=>?_,HM6.o.same (hsc mb (fun e=>HM6.o.mr NS.o e.symm)),eK jy.o hpw _,HI.o.news⟩
    ·have h1:=(HR6.o.mono (T:=fun g=>w.heap.size≤g) (fun g hg _=>by
      rcases hg with hg|hg
      ·exact hg
      have:=eQ.o.size;omega)).Pq (hsc ga (Ne.symm HPG.o))
     exact adm
    ·by_cases e:i=k
     ·subst e;rw[bJ,bJ];exact⟨Le.o.same (hsc _ (aa4 Le.o)),aL _,hwr⟩
     exact acP
    exact adq
   exact ac0
  have h': ¬(k:Int)<(n:Int):=ag;have M0:k=n:=ag;have hd:=HI.o;rw[M0] at hd;have lF:ahn n s w (.returned (.tuple #[.pointer (some ⟨p,0,none⟩),.int .i64 0])) wr:=⟨p,_,rfl,hd.done HN.o (by rcases HS.o with rfl|rfl <;>omega),fun k hk=>hk.1,hd.ai⟩;have HF:=aa lF;clear lF hd M0;go_wp2_with fail;go_ret2;exact HF.o
end En
end
section
namespace En
def X4(d:bG)(kp:Nat): Array Value:=#[.pointer (some ⟨kp,0,none⟩),.bool d.down,.int .i64 d.eu,.int .i64 d.count]
structure qD(S:Nat→Prop)(w:World)(p:Nat)(d:bG)(kp:Nat)(SK:Nat→Prop): Prop where
 own:aD w p 218 (X4 d kp)
 Dq:ve kp d.dk SK w
 bt:S p∧∀ k,SK k→S k∧k≠p
 lt: ∀ k,S k→k<w.heap.size
 arm: -1≤d.eu∧d.eu≤9223372036854775807
def dI(p:Nat)(d:bG)(S:Nat→Prop)(w:World): Prop:=∃ kp SK,qD S w p d kp SK
theorem aC(p:Nat)(d:bG): Loc (dI p d):=by
 refine⟨fun⟨_,_,h⟩=>h.lt,fun {S w w'} ⟨kp,SK,h⟩ hz hk=>⟨kp,SK,?_⟩,fun {S T w} ⟨kp,SK,h⟩ pY hT=>⟨kp,SK,?_⟩⟩
 ·exact⟨(hk p h.bt.1).trans h.own,(ma kp d.dk).same h.Dq hz (fun k hs=>hk k (h.bt.2 k hs).1),h.bt,fun k hs=>aP (h.lt k hs) hz,h.arm⟩
 exact⟨h.own,h.Dq,⟨pY _ h.bt.1,fun k hs=>⟨pY _ (h.bt.2 k hs).1,(h.bt.2 k hs).2⟩⟩,hT,h.arm⟩
theorem qD.mQ{S:Nat→Prop}{w w':World}{p kp:Nat}{d d':bG}{SK:Nat→Prop}(h:qD S w p d kp SK)(ht:aG (· =p) w w')(ho:aD w' p 218 (X4 d' kp))(hd:d'.dk=d.dk)(ha: -1≤d'.eu∧d'.eu≤9223372036854775807): qD S w' p d' kp SK:=
 ⟨ho,by rw[hd];exact(ma kp d.dk).cG h.Dq ht (fun k hs=>(h.bt.2 k hs).2),h.bt,fun k hs=>aP (h.lt k hs) ht.size,ha⟩
theorem qD.step{S:Nat→Prop}{w w':World}{p kp:Nat}{d:bG}{SK:Nat→Prop}{k':Dk}(h:qD S w p d kp SK)(ht:aG SK w w')(hd:ve kp k' (Gr SK w w') w'): qD (Gr S w w') w' p {d with dk:=k'} kp (Gr SK w w'):=
 ⟨ht.arr h.own (fun e=>(h.bt.2 p e).2 rfl),hd,⟨.inl h.bt.1,fun k hs=>by
  rcases hs with hs|hs
  ·exact⟨.inl (h.bt.2 k hs).1,(h.bt.2 k hs).2⟩
  ·exact⟨.inr hs,fun e=>by have:=h.own.lt;omega⟩⟩,fun k hs=>by
  rcases hs with hs|hs
  ·exact aP (h.lt k hs) ht.size
  exact hs.2,h.arm⟩
theorem B8(p kp:Nat)(w:World)(h:w.cell? ⟨p,0,none⟩=some (.pointer (some ⟨kp,0,none⟩))): Calls af 106 #[.pointer (some ⟨p,0,none⟩)] w fun e w'=>e= .returned (.bool false)∧w'=w:=by
 go_enter Tryz.func106,Tryz.ntmps106;go_wp2_with fail;go_ret;exact⟨rfl,rfl⟩
theorem ahr(x:Int): aT.wrap x=wrap64 x:=by rw[IntKind.wrap_i64];unfold wrap64;rfl
def oF(p kp:Nat)(d:bG)(w:World)(e:Ending)(w':World): Prop:=e= .returned (.int .i64 (if d.op.1=true then 0 else 60))∧aD w' p 218 (X4 d.op.2 kp)∧aG (· =p) w w'
theorem VP(p kp:Nat)(d:bG)(w:World)(h:aD w p 218 (X4 d kp))(hd:d.down=true): Calls af 121 #[.pointer (some ⟨p,0,none⟩)] w (oF p kp d w):=by
 have x0:w.cell? ⟨p,0,none⟩=some (.pointer (some ⟨kp,0,none⟩)):=h.cell 0;have x1:w.cell? ⟨p,1,none⟩=some (.bool true):=Fg;have ho:d.op=(false,d):=by unfold bG.op;rw[if_pos hd]
 have hf:oF p kp d w (.returned (.int .i64 60)) w:=by unfold oF;rw[ho];exact⟨rfl,h,aG.refl _ _⟩
 have HF:=aa hf;clear h hd ho hf;exact acR
theorem Rt(p kp:Nat)(d:bG)(w:World)(h:aD w p 218 (X4 d kp))(hd:d.down=false)(ha:d.eu=0): Calls af 121 #[.pointer (some ⟨p,0,none⟩)] w (oF p kp d w):=by
 have x0:w.cell? ⟨p,0,none⟩=some (.pointer (some ⟨kp,0,none⟩)):=h.cell 0;have x1:w.cell? ⟨p,1,none⟩=some (.bool false):=Fg;have x2:w.cell? ⟨p,2,none⟩=some (.int .i64 0):=by rw[←ha];exact h.cell 2
 have m1:=h.mark 1;have m2:=h.mark 2;have ho:d.op=(false,{d with down:=true,eu:=-1}):=by unfold bG.op;rw[if_neg (by rw[hd];simp),if_pos ha]
 have hf:oF p kp d w (.returned (.int .i64 60)) ((w.setCell ⟨p,1,none⟩ (.bool true)).setCell ⟨p,2,none⟩ (.int .i64 (-1))):=by
  unfold oF;rw[ho];exact⟨rfl,by simpa[X4] using(h.put 1 (.bool true)).put 2 (.int .i64 (-1)),(aG.at w p 1 _).B1 2 _⟩
 have HF:=aa hf;clear h hd ho hf ha;exact acR
theorem Mz(p kp:Nat)(d:bG)(w:World)(h:aD w p 218 (X4 d kp))(hd:d.down=false)(ha:0<d.eu)(ha2:d.eu≤9223372036854775807): Calls af 121 #[.pointer (some ⟨p,0,none⟩)] w (oF p kp d w):=by
 have x0:w.cell? ⟨p,0,none⟩=some (.pointer (some ⟨kp,0,none⟩)):=h.cell 0;have x1:w.cell? ⟨p,1,none⟩=some (.bool false):=Fg;have x2:w.cell? ⟨p,2,none⟩=some (.int .i64 d.eu):=h.cell 2;have x3:w.cell? ⟨p,3,none⟩=some (.int .i64 d.count):=h.cell 3;have m2:=h.mark 2;have m3:=h.mark 3;have hq:(d.eu==0)=false:=fH;have ho:d.op=(true,{d with eu:=d.eu - 1,count:=aT.wrap (d.count+1)}):=by unfold bG.op;rw[if_neg (by rw[hd];simp),if_neg ag,if_pos ha]
 obtain⟨c1,hc1⟩:=ae (aT.wrap (d.count+1));have hf: ∀ W:World,W=(w.setCell ⟨p,2,none⟩ (.int .i64 (d.eu - 1))).setCell ⟨p,3,none⟩ (.int .i64 c1)→oF p kp d w (.returned (.int .i64 0)) W:=by
  rintro W rfl;unfold oF;rw[ho];exact⟨rfl,by simpa[X4,hc1] using(h.put 2 (.int .i64 (d.eu - 1))).put 3 (.int .i64 c1),(aG.at w p 2 _).B1 3 _⟩
 exact ac9
theorem Ru(p kp:Nat)(d:bG)(w:World)(h:aD w p 218 (X4 d kp))(hd:d.down=false)(ha:d.eu<0): Calls af 121 #[.pointer (some ⟨p,0,none⟩)] w (oF p kp d w):=by
 have x0:w.cell? ⟨p,0,none⟩=some (.pointer (some ⟨kp,0,none⟩)):=h.cell 0;have x1:w.cell? ⟨p,1,none⟩=some (.bool false):=Fg;have x2:w.cell? ⟨p,2,none⟩=some (.int .i64 d.eu):=h.cell 2;have x3:w.cell? ⟨p,3,none⟩=some (.int .i64 d.count):=h.cell 3;have m3:=h.mark 3;have hq:(d.eu==0)=false:=fH;have hn: ¬0<d.eu:=ag;have ho:d.op=(true,{d with count:=aT.wrap (d.count+1)}):=by unfold bG.op;rw[if_neg (by rw[hd];simp),if_neg ag,if_neg hn]
 obtain⟨c1,hc1⟩:=ae (aT.wrap (d.count+1));have hf: ∀ W:World,W=w.setCell ⟨p,3,none⟩ (.int .i64 c1)→oF p kp d w (.returned (.int .i64 0)) W:=by
  rintro W rfl;unfold oF;rw[ho];exact⟨rfl,by simpa[X4,hc1] using h.put 3 (.int .i64 c1),aG.at w p 3 _⟩
 exact ac9
theorem fR(p kp:Nat)(d:bG)(w:World)(h:aD w p 218 (X4 d kp))(ha:d.eu≤9223372036854775807): Calls af 121 #[.pointer (some ⟨p,0,none⟩)] w (oF p kp d w):=by
 cases hd:d.down with
 | true=>exact VP p kp d w h hd
 | false=>
  rcases Int.lt_trichotomy d.eu 0 with h1|h1|h1
  ·exact Ru p kp d w h hd h1
  ·exact Rt p kp d w h hd h1
  exact Mz p kp d w h hd h1 ha
end En
end
section
namespace En
theorem bG.uf(d:bG): d.op.2.dk=d.dk:=by unfold bG.op;split;rfl;split <;>rfl
theorem bG.afj(d:bG)(h: -1≤d.eu∧d.eu≤9223372036854775807): -1≤d.op.2.eu∧d.op.2.eu≤9223372036854775807:=by
 unfold bG.op;split
 ·exact h
 split
 ·simp
 simp only;split <;>omega
variable{p:Nat}{S:Nat→Prop}{w:World}
theorem dI.lift{d:bG}{w1 w2:World} (h:dI p d (Gr S w1 w2) w2)(hS: ∀ k,S k→k<w.heap.size)(h1:w.heap.size≤w1.heap.size)(h2:w1.heap.size≤w2.heap.size): dI p d (Gr S w w2) w2:=
 (aC p d).mono h (fun k hk=>by rcases hk with hk|hk;exact .inl hk;exact .inr ⟨ag,hk.2⟩) (fun k hk=>by rcases hk with hk|hk;exact aP (hS k hk) ag;exact hk.2)
theorem pL{kp:Nat} {d:bG}{SK:Nat→Prop} {w1:World} {e:Ending}(h:qD S w p d kp SK)(ho:oF p kp d w e w1): e= .returned (.int .i64 (if d.op.1=true then 0 else 60))∧qD S w1 p d.op.2 kp SK∧aG S w w1:=
 ⟨ho.1,h.mQ ho.2.2 ho.2.1 d.uf (d.afj h.arm),ho.2.2.mono fun k _ hk=>hk▸h.bt.1⟩
theorem EG{d:bG}(h:dI p d S w)(at_:Int)(b:By)(A:Option Addr)(c:Nat)(hB:Bs w A b)(hA:rU A)(hAS: ∀ g off,A=some ⟨g,off,none⟩→¬S g)(hrow:d.dk.row.length<1000000):
  Calls af 47 #[.pointer (some ⟨p,0,none⟩),.int .i64 at_,.slice A b.length c] w fun e w'=>e= .returned (.int .i64 (d.write at_ b).1)∧dI p (d.write at_ b).2 (Gr S w w') w'∧aG S w w':=by
 have L:=aC p;have HS:=aa (fun k hk=>(L d).lt h k hk);obtain⟨kp,SK,h⟩:=h;have HM:=aa (fR p kp d w h.own h.arm.2);have HH:=aa h;have HB:=aa hB;have HA:=aa hA;have CU:=aa hAS;have HL:=aa L;clear h hB hA hAS L;cases hop:d.op.1 with
 | false=>
  have hw:d.write at_ b=(60,d.op.2):=by unfold bG.write;rw[if_neg (by rw[hop];simp)]
  rw[hw];have HOP:=aa hop;clear hop hw;go_enter Tryz.func47,Tryz.ntmps47;exact adk
 | true=>
  have hw:d.write at_ b=((d.op.2.dk.write at_ b).1,{d.op.2 with dk:=(d.op.2.dk.write at_ b).2}):=by unfold bG.write;rw[if_pos hop]
  rw[hw];have HOP:=aa hop;clear hop hw;go_enter Tryz.func47,Tryz.ntmps47;go_wp2_with fail;refine HM.o.mono ?_;rintro e w1 ho;obtain⟨he,hd,ht⟩:=pL HH.o ho;rw[HOP.o] at he;subst he;have y0:w1.cell? ⟨p,0,none⟩=some (.pointer (some ⟨kp,0,none⟩)):=hd.own.cell 0;have XO:=HB.o.cG ht (fun g off e _=>CU.o g off e);have Cg:=aa (Yp hd.Dq at_ b A c XO HA.o (by rw[d.uf];exact hrow));have HD:=aa hd;have HT:=aa ht;clear ho hd ht XO;go_wp2_with fail;refine Cg.o.mono ?_;rintro e w2 ⟨rfl,hk,ug⟩;have hd2:=HD.o.step ug hk;have HF:=aa (show dI p {d.op.2 with dk:=(d.op.2.dk.write at_ b).2} (Gr S w w2) w2∧aG S w w2 from⟨dI.lift ⟨kp,_,hd2⟩ HS.o HT.o.size ug.size,HT.o.trans (ug.mono fun k _ hk=>(HD.o.bt.2 k hk).1)⟩);clear hk ug hd2 Cg;go_wp2_with fail;go_ret;exact⟨rfl,HF.o⟩
theorem YM{d:bG}(h:dI p d S w)(hrow:d.dk.row.length≤1000000):
  Calls af 332 #[.pointer (some ⟨p,0,none⟩)] w fun e w'=>e= .returned (.int .i64 d.sync.1)∧dI p d.sync.2 (Gr S w w') w'∧aG S w w':=by
 have L:=aC p;have HS:=aa (fun k hk=>(L d).lt h k hk);obtain⟨kp,SK,h⟩:=h;have HM:=aa (fR p kp d w h.own h.arm.2);have HH:=aa h;have HL:=aa L;clear h L;cases hop:d.op.1 with
 | false=>
  have hw:d.sync=(60,d.op.2):=by unfold bG.sync;rw[if_neg (by rw[hop];simp)]
  rw[hw];have HOP:=aa hop;clear hop hw;go_enter Tryz.func332,Tryz.ntmps332;exact adk
 | true=>
  have hw:d.sync=(0,{d.op.2 with dk:=d.op.2.dk.settle (fun _=>d.op.2.dk.size)}):=by unfold bG.sync;rw[if_pos hop,d.uf]
  rw[hw];have HOP:=aa hop;clear hop hw;go_enter Tryz.func332,Tryz.ntmps332;go_wp2_with fail;refine HM.o.mono ?_;rintro e w1 ho;obtain⟨he,hd,ht⟩:=pL HH.o ho;rw[HOP.o] at he;subst he;have y0:w1.cell? ⟨p,0,none⟩=some (.pointer (some ⟨kp,0,none⟩)):=hd.own.cell 0;have Cg:=aa (abD hd.Dq (by rw[d.uf];exact hrow));have HD:=aa hd;have HT:=aa ht;clear ho hd ht;go_wp2_with fail;refine Cg.o.mono ?_;rintro e w2 ⟨rfl,hk,ug⟩;have hd2:=HD.o.step ug hk;have HF:=aa (show dI p {d.op.2 with dk:=d.op.2.dk.settle (fun _=>d.op.2.dk.size)} (Gr S w w2) w2∧aG S w w2 from⟨dI.lift ⟨kp,_,hd2⟩ HS.o HT.o.size ug.size,HT.o.trans (ug.mono fun k _ hk=>(HD.o.bt.2 k hk).1)⟩);clear hk ug hd2 Cg;go_wp2_with fail;go_ret;exact⟨rfl,HF.o⟩
def PRd(S:Nat→Prop)(p:Nat)(r:Int × By × bG)(w:World)(e:Ending)(w':World): Prop:=
 (∃ A c,e= .returned (.tuple #[.slice A r.2.1.length c,.int .i64 r.1])∧(r.2.1≠ []→∃ g,A=some ⟨g,0,none⟩∧w.heap.size≤g∧eC w' 5 g r.2.1)∧r.2.1.length≤c)∧dI p r.2.2 S w'∧aG S w w'
theorem Ku{d:bG}(h:dI p d S w)(at_:Int): Calls af 330 #[.pointer (some ⟨p,0,none⟩),.int .i64 at_] w (PRd S p (d.read at_) w):=by
 obtain⟨kp,SK,h⟩:=h;have HM:=aa (fR p kp d w h.own h.arm.2);have HH:=aa h;clear h;cases hop:d.op.1 with
 | false=>
  have hw:d.read at_=(60,[],d.op.2):=by unfold bG.read;rw[if_neg (by rw[hop];simp)]
  rw[hw];have HOP:=aa hop;clear hop hw;go_enter Tryz.func330,Tryz.ntmps330;go_wp2_with fail;refine HM.o.mono ?_;rintro e w1 ho;obtain⟨he,hd,ht⟩:=pL HH.o ho;rw[HOP.o] at he;subst he;have HF:=aa (show dI p d.op.2 S w1∧aG S w w1 from⟨⟨kp,SK,hd⟩,ht⟩);clear ho hd ht;go_wp2_with fail;go_ret2;exact⟨⟨none,0,rfl,fun h=>absurd rfl h,aL _⟩,HF.o⟩
 | true=>
  have hw:d.read at_=((d.op.2.dk.read at_).1,(d.op.2.dk.read at_).2,d.op.2):=by unfold bG.read;rw[if_pos hop]
  rw[hw];have HOP:=aa hop;clear hop hw;go_enter Tryz.func330,Tryz.ntmps330;go_wp2_with fail;refine HM.o.mono ?_;rintro e w1 ho;obtain⟨he,hd,ht⟩:=pL HH.o ho;rw[HOP.o] at he;subst he;have y0:w1.cell? ⟨p,0,none⟩=some (.pointer (some ⟨kp,0,none⟩)):=hd.own.cell 0;have Cg:=aa (abI hd.Dq at_);have HD:=aa hd;have HT:=aa ht;clear ho hd ht;go_wp2_with fail;refine Cg.o.mono ?_;rintro e w2 ⟨A,c,rfl,h1,h2,h3⟩;have hf:PRd S p ((d.op.2.dk.read at_).1,(d.op.2.dk.read at_).2,d.op.2) w (.returned (.tuple #[.slice A (d.op.2.dk.read at_).2.length c,.int .i64 (d.op.2.dk.read at_).1])) w2:=
   ⟨⟨A,c,rfl,fun hne=>by obtain⟨g,a,b,x⟩:=h1 hne;exact⟨g,a,bf HT.o.size b,x⟩,h2⟩,(aC p d.op.2).ai ⟨kp,SK,HD.o⟩ h3,HT.o.ai h3⟩
  have HF:=aa hf;clear h1 h2 h3 Cg hf;go_wp2_with fail;go_ret2;exact HF.o
end En
end
section
namespace En
variable{S:Nat→Prop}{w:World}
theorem Kt{p:Nat}{d:bG}(h:dI p d S w): Calls af 125 #[.pointer (some ⟨p,0,none⟩)] w fun e w'=>e= .returned (.int .i64 d.dk.dr.length)∧w'=w:=by
 obtain⟨kp,SK,h⟩:=h;have x0:w.cell? ⟨p,0,none⟩=some (.pointer (some ⟨kp,0,none⟩)):=h.own.cell 0;obtain⟨q,hq⟩:=h.Dq;have HS:=aa (B4 hq);clear h hq;go_enter Tryz.func125,Tryz.ntmps125;exact acZ
theorem YN{p:Nat}{d:bG}(h:dI p d S w): Calls af 126 #[.pointer (some ⟨p,0,none⟩)] w fun e w'=>e= .returned (.int .i64 d.dk.size)∧w'=w:=by
 obtain⟨kp,SK,h⟩:=h;have x0:w.cell? ⟨p,0,none⟩=some (.pointer (some ⟨kp,0,none⟩)):=h.own.cell 0;obtain⟨q,hq⟩:=h.Dq;have HS:=aa (abE hq);clear h hq;go_enter Tryz.func126,Tryz.ntmps126;exact acZ
theorem PT{kp:Nat}{k:Dk}(h:ve kp k S w): Calls af 115 #[.pointer (some ⟨kp,0,none⟩)] w fun e w'=>∃ p,e= .returned (.tuple #[.pointer (some ⟨p,0,none⟩),.int .i64 0])∧dI p ⟨k,false,-1,0⟩ (Gr S w w') w'∧w.heap.size≤p∧Below w.heap.size w w':=by
 have HL:=aa (ma kp k);have HS:=aa (fun j hj=>(ma kp k).lt h j hj);have HH:=aa h;obtain⟨q,hq⟩:=h;have GA:=aa (B4 hq);have hn:((k.dr.length:Int)==0)=false:=by have:=hq.ok.some;rw[beq_eq_false_iff_ne];omega
 have mW:(k.dr.length==0)=false:=by have:=hq.ok.some;rw[beq_eq_false_iff_ne];omega
 clear hq;go_enter Tryz.func115,Tryz.ntmps115;go_wp2_with fail;refine ah GA.o ?_;clear GA;go_wp2_with fail;go_ret2;have hb:Below w.heap.size w (w.alloc (.cells #[.pointer (some ⟨kp,0,none⟩),.bool false,.int .i64 (-1),.int .i64 0] 218)):=aw (aq _ _) _;refine⟨w.heap.size,rfl,⟨kp,S,⟨aD.fresh w _ _,HL.o.ai HH.o hb,⟨.inr ⟨aL _,dA⟩,fun j hj=>⟨.inl hj,fun e=>by have:=HS.o j hj;omega⟩⟩,fun j hj=>?_,dA⟩⟩,aL _,hb⟩;rcases hj with hj|hj
 ·have:=HS.o j hj;simp;omega
 exact hj.2
end En
end
section
namespace En
structure fV(w:World)(r p:Nat)(g:Rg)(size:Nat): Prop where
 own:aD w r 239 #[.pointer (some ⟨p,0,none⟩),.int .i64 g.from_,.int .i64 g.count,.int .i64 size]
 size:1≤size∧size≤4096
 count:1≤g.count∧g.from_+g.count≤65536
variable{w:World}{r p size:Nat}
theorem fV.keep{w':World} {g:Rg}(h:fV w r p g size)(hb:Below w.heap.size w w'): fV w' r p g size:=⟨h.own.keep hb,h.size,h.count⟩
theorem fV.cG{S:Nat→Prop}{w':World} {g:Rg}(h:fV w r p g size)(ht:aG S w w')(hr: ¬S r): fV w' r p g size:=⟨ht.arr h.own hr,h.size,h.count⟩
theorem fV.e8{g:Rg}(h:fV w r p g size): g.bytes size≤268435456:=by
 have h1:=h.size;have h2:=h.count;unfold Rg.bytes
 calc g.count*size≤65536*4096:=Nat.mul_le_mul ag ag
  _=268435456:=aM
theorem nT(r p:Nat)(w:World)(h:w.cell? ⟨r,0,none⟩=some (.pointer (some ⟨p,0,none⟩))): Calls af 206 #[.pointer (some ⟨r,0,none⟩)] w fun e w'=>e= .returned (.bool true)∧w'=w:=by
 go_enter Tryz.func206,Tryz.ntmps206;go_wp2_with fail;go_ret;exact⟨rfl,rfl⟩
theorem EE{g:Rg}(h:fV w r p g size): Calls af 207 #[.pointer (some ⟨r,0,none⟩)] w fun e w'=>e= .returned (.int .i64 (g.bytes size:Nat))∧Below w.heap.size w w':=by
 have x2:=h.own.cl 2;have x3:=h.own.cl 3;have hb:=h.e8;have e1:(g.count:Int)*(size:Int)=((g.bytes size:Nat):Int):=by unfold Rg.bytes;push_cast;rfl
 have hw:aT.wrap ((g.bytes size:Nat):Int)=((g.bytes size:Nat):Int):=IntWalk.i64_in _ ag;have hb':((g.bytes size:Nat):Int)≤268435456:=ag;clear h;generalize g.bytes size=B at *;go_enter Tryz.func207,Tryz.ntmps207;exact Wh
theorem ny{g:Rg}(h:fV w r p g size): Calls af 95 #[.pointer (some ⟨r,0,none⟩)] w fun e w'=>e= .returned (.int .i64 (g.bytes size:Nat))∧Below w.heap.size w w':=by
 have x0:=h.own.cl 0;have HB:=aa (EE h);clear h;go_enter Tryz.func95,Tryz.ntmps95;go_wp2_with fail;refine ah (nT r p w x0) ?_;go_wp2_with fail;refine HB.o.mono ?_;exact Je
theorem kJ{g:Rg}(h:fV w r p g size): Calls af 128 #[.pointer (some ⟨r,0,none⟩)] w fun e w'=>e= .returned (.int .i64 size)∧w'=w:=by
 have x0:=h.own.cl 0;have x3:=h.own.cl 3;clear h;go_enter Tryz.func128,Tryz.ntmps128;go_wp2_with fail;refine ah (nT r p w x0) ?_;go_wp2_with fail;go_ret;exact⟨rfl,rfl⟩
theorem Ko{g:Rg}{d:bG}{S:Nat→Prop}(h:fV w r p g size)(hD:dI p d S w)(hrow:d.dk.row.length≤1000000): Calls af 295 #[.pointer (some ⟨r,0,none⟩)] w fun e w'=>e= .returned (.int .i64 d.sync.1)∧dI p d.sync.2 (Gr S w w') w'∧aG S w w':=by
 have x0:=h.own.cl 0;have HS:=aa (YM hD hrow);clear h hD;go_enter Tryz.func295,Tryz.ntmps295;go_wp2_with fail;refine ah (nT r p w x0) ?_;go_wp2_with fail;refine HS.o.mono ?_;exact Je
theorem uF(size k a m:Nat)(hs:1≤size)(hm:1≤m)(hk:m≤k+1): ∃ s f t d,a / size=s∧a % size=f∧min size (f+m)=t∧t - f=d∧f<t∧t≤size∧1≤d∧d≤m∧m - d≤k∧pieces size (k+1) a m=⟨s,f,t⟩::pieces size k (a+d) (m - d):=by
 have hf:a % size<size:=Nat.mod_lt _ hs;refine⟨_,_,_,_,rfl,rfl,rfl,rfl,ag,ag,ag,ag,ag,?_⟩;rw[pieces,if_neg ag]
theorem R1{g:Rg}(w:World)(lb:Array Value)(at_ n:Nat)(I:List Piece→World→Prop)(Er:Int→World→Prop)(hsz:1≤size∧size≤4096)(hg:g.from_≤65536)(hn:at_+n≤268435456)
  (hI: ∀ ps W,I ps W→fV W r p g size)
  (hf: ∀ x ps W,I (x::ps) W→Calls af 365 (#[.int .i64 ((g.from_+x.s:Nat):Int),.int .i64 x.f,.int .i64 x.t]++lb) W fun e W'=>(e= .returned (.int .i64 0)∧I ps W')∨∃ er:Int,er≠0∧e= .returned (.int .i64 er)∧Er er W')
  (h0:I (pieces size n at_ n) w) :
  Calls af 328 #[.pointer (some ⟨r,0,none⟩),.int .i64 at_,.int .i64 n,.func (.func 365) #[] lb] w fun e w'=>(e= .returned (.int .i64 0)∧I [] w')∨∃ er:Int,er≠0∧e= .returned (.int .i64 er)∧Er er w':=by
 exact adI
theorem Nn{g:Rg}(w:World)(lb:Array Value)(at_ n:Nat)(I:List Piece→World→Prop)(Er:Int→World→Prop)(hsz:1≤size∧size≤4096)(hg:g.from_≤65536)(hn:at_+n≤268435456)
  (hI: ∀ ps W,I ps W→fV W r p g size)
  (hf: ∀ x ps W,I (x::ps) W→Calls af 329 (#[.int .i64 ((g.from_+x.s:Nat):Int),.int .i64 x.f,.int .i64 x.t]++lb) W fun e W'=>(e= .returned (.int .i64 0)∧I ps W')∨∃ er:Int,er≠0∧e= .returned (.int .i64 er)∧Er er W')
  (h0:I (pieces size n at_ n) w) :
  Calls af 328 #[.pointer (some ⟨r,0,none⟩),.int .i64 at_,.int .i64 n,.func (.func 329) #[] lb] w fun e w'=>(e= .returned (.int .i64 0)∧I [] w')∨∃ er:Int,er≠0∧e= .returned (.int .i64 er)∧Er er w':=by
 exact adI
end En
end
section
namespace En
variable{r p size:Nat}{w:World}
theorem vU{g:Rg}(h:fV w r p g size)(at_ n:Nat)(hat:at_≤268435456)(hn:n≤268435456): Calls af 327 #[.pointer (some ⟨r,0,none⟩),.int .i64 at_,.int .i64 n] w fun e w'=>e= .returned (.bool (!g.bad size at_ n))∧Below w.heap.size w w':=by
 have hb:=h.e8;have HB:=aa fun(W:World) (hW:Below w.heap.size w W)=>EE (h.keep hW)
 obtain⟨B,hB⟩:=ae (g.bytes size);have nI:(!g.bad size at_ n)=(decide (at_≤B) && decide (n≤B - at_)):=by
  unfold Rg.bad;rw[hB,Bool.eq_iff_iff];simp;omega
 rw[nI];rw[hB] at HB hb;clear nI h hB;by_cases h1:at_≤B
 ·have K8:(at_:Int)≤(B:Int):=by omega
  have t1:decide (at_≤B)=true:=wU;obtain⟨m,hm⟩:=ae (B - at_:Nat);have hm':(B:Int) - (at_:Int)=(m:Int):=ag;have t2:decide ((n:Int)≤(m:Int))=decide (n≤m):=dA;rw[t1,Bool.true_and,hm];have hw:aT.wrap ((m:Nat):Int)=((m:Nat):Int):=IntWalk.i64_in _ ag;clear hm;go_enter Tryz.func327,Tryz.ntmps327;go_wp2_with fail;refine(HB.o _ (aq _ _)).mono ?_;rintro e w1 ⟨rfl,aX⟩;have sK:=aa aX;clear aX;go_wp2_with fail;refine(HB.o _ sK.o).mono ?_;rintro e w2 ⟨rfl,hw2⟩;have Gz:=aa (show Below w.heap.size w w2 from ar sK.o hw2);clear hw2;go_wp2_with fail;go_ret;exact⟨rfl,Gz.o⟩
 have K8: ¬(at_:Int)≤(B:Int):=ag;have t1:decide (at_≤B)=false:=wU;rw[t1,Bool.false_and];go_enter Tryz.func327,Tryz.ntmps327;go_wp2_with fail;refine(HB.o _ (aq _ _)).mono ?_;exact Je
def QO: List Piece→Nat
 | []=>0
 | x::ps=>(x.t - x.f)+QO ps
theorem nC(size:Nat)(hs:1≤size): ∀ k a n,n≤k→QO (pieces size k a n)=n
 | 0,a,n,h=>by rw[show n=0 from ag];rfl
 | k+1,a,n,h=>by
  by_cases h0:n=0
  ·rw[pieces,if_pos h0,h0];rfl
  obtain⟨s,f,t,d,_,_,_,e4,hft,_,_,hdm,hmk,hp⟩:=uF size k a n hs ag h;rw[hp,QO,nC size hs k _ _ hmk];show t - f+(n - d)=n
  omega
theorem pG(size:Nat)(hs:1≤size): ∀ k a n,n≤k→∀ x∈pieces size k a n,x.f<x.t∧x.t≤size
 | 0,a,n,h=>by rw[pieces];intro x hx;cases hx
 | k+1,a,n,h=>by
  by_cases h0:n=0
  ·rw[pieces,if_pos h0];intro x hx;cases hx
  obtain⟨s,f,t,d,_,_,_,e4,hft,hts,_,hdm,hmk,hp⟩:=uF size k a n hs ag h;rw[hp];intro x hx;rcases List.mem_cons.1 hx with rfl|hx
  ·exact⟨hft,hts⟩
  exact pG size hs k _ _ hmk x hx
theorem bG.OZ{d:bG}{at_:Int}(h:(d.read at_).1=0)(hk:d.dk.Ok): (d.read at_).2.1.length=d.dk.size:=by
 unfold bG.read at h ⊢;split at h
 ·rename_i hop;rw[if_pos hop];simp only[bG.uf] at h ⊢;unfold Dk.read at h ⊢;split at h
  ·simp at h
  rename_i hb;rw[if_neg hb];simp only;unfold Dk.look;cases hr:gP d.dk.row at_.toNat with
  | some b=>
   have: ∀ l:List (Nat × By),(∀ x∈l,x.2.length=d.dk.size)→∀ b,gP l at_.toNat=some b→b.length=d.dk.size:=by
    intro l
    induction l with
    | nil=>intro _ b hb;cases hb
    | cons x l ih=>
     intro hl b hb;rw[gP] at hb;split at hb
     ·rename_i b' hb';injection hb with hb
      subst hb;exact ih (fun y hy=>hl y (gy _ hy)) _ hb'
     split at hb
     ·injection hb with hb
      subst hb;exact hl x (List.mem_cons_self ..)
     cases hb
   exact this _ (fun x hx=>(hk.aK x hx).2) b hr
  | none=>
   simp only[Dk.bad,Bool.or_eq_true,decide_eq_true_eq,not_or] at hb;rw[Option.getD_none,bQ,List.getElem?_eq_getElem ag];exact hk.each _ (List.getElem_mem _)
 simp at h
theorem bG.lK(d:bG)(at_:Int): (d.read at_).2.2.dk=d.dk:=by unfold bG.read;split <;>exact bG.uf d
structure RdI(S:Nat→Prop)(w:World)(base bx o r p size:Nat)(g:Rg)(R:Int × By × bG)(ps:List Piece)(W:World): Prop where
 rg:fV W r p g size
 box:W.cell? ⟨bx,0,none⟩=some (.pointer (some ⟨r,0,none⟩))
 Yf:base≤W.heap.size
 body: ∃ d acc v,dI p d S W∧d.dk.Ok∧d.dk.size=size∧aD W o 34 #[v]∧W.ownsRow base 5 1 v acc.length (aN acc)∧R=H7 g d ps acc∧acc.length+QO ps≤268435456
 pcs: ∀ x∈ps,x.f<x.t∧x.t≤size
 cG:aG S w W
def RdE(S:Nat→Prop)(w:World)(p:Nat)(R:Int × By × bG)(er:Int)(W:World): Prop:=∃ d,R=(er,[],d)∧dI p d S W∧aG S w W
structure RdO(S:Nat→Prop)(w:World)(base bx o r:Nat): Prop where
 mg:w.heap.size≤bx∧bx<base
 ho:w.heap.size≤o∧o<base∧o≠bx
 hr:r<w.heap.size∧¬S r
 hS: ∀ k,S k→k<w.heap.size
theorem afg{S:Nat→Prop}{W:World} {base bx o:Nat} {g:Rg}{R:Int × By × bG}{x:Piece}{ps:List Piece}(hO:RdO S w base bx o r)(h:RdI S w base bx o r p size g R (x::ps) W):
  Calls af 365 (#[.int .i64 ((g.from_+x.s:Nat):Int),.int .i64 x.f,.int .i64 x.t]++ #[.pointer (some ⟨bx,0,none⟩),.pointer (some ⟨o,0,none⟩)]) W fun e W'=>(e= .returned (.int .i64 0)∧RdI S w base bx o r p size g R ps W')∨∃ er:Int,er≠0∧e= .returned (.int .i64 er)∧RdE S w p R er W':=by
 obtain⟨d,acc,v,hD,hdk,hsz,hv,hown,hR,Dh⟩:=h.body;have x0:=h.box;have x1:=h.rg.own.cl 0;obtain⟨hft,hts⟩:=h.pcs x (List.mem_cons_self ..);have oH:=aa (Ku hD ((g.from_+x.s:Nat):Int));have H:=aa h;have HO:=aa hO;have HDK:=aa hdk;have mi:=aa hsz;have HV:=aa hv;have HW:=aa hown;have HR:=aa hR;have HT:=aa Dh;obtain⟨a,ha⟩:=ae (g.from_+x.s:Nat);rw[ha] at oH ⊢;have HA:=aa ha;obtain⟨er,oU⟩:=ae ((d.read (a:Int)).1);obtain⟨b,hb⟩:=ae ((d.read (a:Int)).2.1);obtain⟨d',PC⟩:=ae ((d.read (a:Int)).2.2);have kX:d.read (a:Int)=(er,b,d'):=by rw[←oU,←hb,←PC]
 rw[kX] at oH;have hstep:R=if er=0 then H7 g d' ps (acc++(b.take x.t).drop x.f)else(er,[],d'):=by rw[hR,H7,ha,kX]
 have Xv:d'.dk=d.dk:=by rw[←PC];exact bG.lK _ _
 have hbl:er=0→b.length=size:=fun e0=>by rw[←hb,←hsz];exact bG.OZ (oU.trans e0) hdk
 have HST:=aa hstep;have SG:=aa Xv;have vd:=aa hbl;have aog:(x.f:Int)≤(x.t:Int):=ag;have hf0:(0:Int)≤(x.f:Int):=ag;have NW:=aa hft;have HTS:=aa hts;clear h hO hdk hsz hv hown hR Dh hD ha oU hb PC kX hstep Xv hbl hft hts;go_enter Tryz.func365,Tryz.ntmps365;go_wp2_with fail;refine oH.o.mono ?_;rintro e w1 ⟨⟨A,c,rfl,hblk,hc⟩,hD1,ht1⟩;have su:aG S w w1:=H.o.cG.trans ht1;have HB:=aa hblk;have HC:=aa hc;have NX:=aa hD1;have jx:=aa su;have HTT:=aa ht1;clear hblk hc hD1 ht1 su;by_cases h0:er=0
 ·subst h0;have hbl:=vd.o rfl;have ag9:=aa hbl;have amW:=aa (show R=H7 g d' ps (acc++(b.take x.t).drop x.f)from by rw[HST.o,if_pos rfl]);clear vd HST;have hne:b≠ []:=by intro e;rw[e] at hbl;have:=NW.o;have:=HTS.o;simp at hbl;omega
  obtain⟨gb,rfl,hgb,hBb⟩:=HB.o hne;have HG:=aa hgb;have jl:=aa hBb;have Xh: ∀ k,w.heap.size≤k→¬S k:=fun k hk hs=>Nat.lt_irrefl _ (aP (HO.o.hS k hs) hk)
  have y0:w1.cell? ⟨o,0,none⟩=some v:=(HTT.o.arr HV.o (Xh _ HO.o.ho.1)).cell 0;have m0:w1.frozen? ⟨o,0,none⟩=false:=(HTT.o.arr HV.o (Xh _ HO.o.ho.1)).mark 0;have htc:(x.t:Int)≤(c:Int):=by have h1:b.length≤c:=HC.o;have:=HTS.o;omega
  have ui:w1.ownsRow base 5 1 v acc.length (aN acc):=dY HW.o fun k hk=>by
   have h1:=pI HW.o k hk;exact HTT.o.block k (dP HW.o hk).1 (Xh k (by have:=HO.o.ho;omega))
  have sK:=aa ui;have hcf: ¬c=x.f:=by have:=NW.o;omega
  clear hbl hne hgb hBb Xh ui;go_wp2_with fail;refine dN aW ?_;refine bc.any (S:=(fun w'=>w'.cell? ⟨o,0,none⟩=some v)) (t:=6) _ _ _ _ ?_;have hHeld:=(show(fun w'=>w'.cell? ⟨o,0,none⟩=some v) w1.drew from y0);refine tt 0 ?_;refine tt 1 ?_;refine tt 2 ?_;refine tt 3 ?_;refine tt 4 ?_;refine bc.step (i:=5) aW aW rfl (fun K hK=>?_);rw[if_pos iN];obtain⟨i0,hi,hz0,hz1,hz2⟩:=info_parts dX;have zB:((b.take x.t).drop x.f).length=x.t - x.f:=by have:=ag9.o;have:=HTS.o;simp;omega
  have hlen:acc.length+(x.t - x.f)≤268435456:=by have:=HT.o;rw[QO] at this;omega
  have tN:Bs w1.drew (some ⟨gb,x.f,none⟩) ((b.take x.t).drop x.f):=by have:=((show Bs w1.drew (some ⟨gb,0,none⟩) b from fun hne=>jl.o.bs hne).take x.t).drop x.f;rwa [Nat.zero_add] at this
  refine wp_append_own w1.drew (.tmp 23) (.tmp 27) 34 rfl base 5 i0 (.int .u8 0) 1 1 ey hi hz0 hz1 hz2 rfl aM v acc.length (aN acc) rfl sK.o ⟨gb,x.f,none⟩ (x.t - x.f) (c - x.f) (aN ((b.take x.t).drop x.f)) rfl (by rw[bn,zB,Nat.mul_one]) tN.read (bO _) iM ag (bf H.o.Yf HTT.o.size) ?_;intro v5 w5 bT lY _;obtain⟨A5,c5,rfl⟩:=cg bT;have hno:some o≠v.ownBlock:=fun e=>by have:=pI sK.o o e.symm;have:=HO.o.ho;omega
  have hol:o<w1.heap.size:=bz _ _ y0;have x5:w5.cell? ⟨o,0,none⟩=some v:=(eF (a:=⟨o,0,none⟩) (lY.block o hol hno)).trans y0;have m5:w5.frozen? ⟨o,0,none⟩=false:=(World.frozen?_of_block (a:=⟨o,0,none⟩) (lY.block o hol hno)).trans m0;have EL:=aa bT;have wy:=aa lY;have Li:=aa zB;have uY:=aa hlen;clear tN hno hol bT lY zB hlen hi hz0 hz1 hz2 i0;refine hK.out _ _ (by exact x5) (fun jA=>?_);clear hK K;try simp only[aQ]
  refine bc.last aW ?_;refine kI 6 aW aW ?_;simp only[tE,Hl];go_wp2_with fail;go_ret;refine .inl ⟨rfl,?_⟩;have S8:o<w5.heap.size:=aP (aP HO.o.ho.2.1 H.o.Yf) (bf HTT.o.size wy.o.size);have Bu:aG (· =o) w5 (w5.setCell ⟨o,0,none⟩ (.slice A5 (acc.length+(x.t - x.f)) c5)):=aG.at w5 o 0 _;have PA: ∀ k,k<base→k≠o→(w5.setCell ⟨o,0,none⟩ (.slice A5 (acc.length+(x.t - x.f)) c5)).heap[k]? =w1.heap[k]?:=fun k hk hne=>by
   have vV:k<w1.heap.size:=aP hk (bf H.o.Yf HTT.o.size);refine(Bu.block k (aP vV wy.o.size) hne).trans (wy.o.block k vV fun e=>?_);have:=pI sK.o k e.symm;omega
  have Xh: ∀ k,w.heap.size≤k→¬S k:=fun k hk hs=>Nat.lt_irrefl _ (aP (HO.o.hS k hs) hk)
  have hz:w1.heap.size≤(w5.setCell ⟨o,0,none⟩ (.slice A5 (acc.length+(x.t - x.f)) c5)).heap.size:=bf wy.o.size Bu.size;have hwb:=HO.o.ho;have hTf:aG S w (w5.setCell ⟨o,0,none⟩ (.slice A5 (acc.length+(x.t - x.f)) c5)):=by
   refine⟨Bu.os.trans (wy.o.os.trans jx.o.os),Bu.tape.trans (wy.o.tape.trans jx.o.tape),Bu.output.trans (wy.o.output.trans jx.o.output),bf jx.o.size hz,fun k hk hs=>?_⟩;exact(PA k ag ag).trans (jx.o.block k hk hs)
  refine⟨⟨(PA r (by have:=HO.o.hr;omega) (by have:=HO.o.hr;omega)).trans ((HTT.o.block r (by have:=HO.o.hr;have:=H.o.cG.size;omega) HO.o.hr.2).trans H.o.rg.own),H.o.rg.size,H.o.rg.count⟩,?_,bf H.o.Yf (bf HTT.o.size hz),⟨d',acc++(b.take x.t).drop x.f,.slice A5 (acc.length+(x.t - x.f)) c5,?_,?_,?_,?_,?_,?_,?_⟩,fun y hy=>H.o.pcs y (gy _ hy),hTf⟩
  ·refine(eF (a:=⟨bx,0,none⟩) ((PA bx HO.o.mg.2 (Ne.symm hwb.2.2)).trans (HTT.o.block bx (aP HO.o.mg.2 H.o.Yf) (Xh bx HO.o.mg.1)))).trans H.o.box
  ·refine(aC p d').same NX.o hz fun k hk=>PA k ?_ ?_
   ·have:=HO.o.hS k hk;omega
   have:=HO.o.hS k hk;omega
  ·rw[SG.o];exact HDK.o
  ·rw[SG.o];exact mi.o
  ·have:=(((show aD w1.drew o 34 #[v] from HTT.o.arr HV.o (Xh _ HO.o.ho.1)).bo wy.o (fun e=>by have:=pI sK.o o e;omega)).put 0 (.slice A5 (acc.length+(x.t - x.f)) c5));simpa using this
  ·rw[eh,List.length_append,Li.o];refine dY EL.o fun k hk=>Bu.block k ?_ ?_
   ·exact(dP EL.o hk).1
   have:=pI EL.o k hk;omega
  ·exact amW.o
  have:=HT.o;rw[QO] at this;rw[List.length_append,Li.o];omega
 ·have hq:(er==0)=false:=by simp[h0]
  have HF:=aa (show ∃ X2:Int,X2≠0∧Ending.returned (.int .i64 er)= .returned (.int .i64 X2)∧RdE S w p R X2 w1 from⟨er,h0,rfl,d',by rw[HST.o,if_neg h0],NX.o,jx.o⟩);clear HST vd h0;go_wp2_with fail;go_ret;exact .inr HF.o
theorem fV.Pa{g:Rg}(h:fV w r p g size): g.from_≤65536:=by have:=h.count;omega
theorem Kq{S:Nat→Prop}{g:Rg}{d:bG}(h:fV w r p g d.dk.size)(hD:dI p d S w)(hr: ¬S r)(at_ n:Nat)(hat:at_≤268435456)(hn:n≤268435456):
  Calls af 335 #[.pointer (some ⟨r,0,none⟩),.int .i64 at_,.int .i64 n] w (PRd S p (g.read d at_ n) w):=by
 have hS: ∀ k,S k→k<w.heap.size:=(aC p d).lt hD;have hdk:d.dk.Ok:=Ux;have HD:=aa hD;have HH:=aa h;have HR:=aa hr;have HS:=aa hS;have HDK:=aa hdk;clear hD hS hdk hr;cases nI:g.bad d.dk.size at_ n with
 | true=>
  have hres:g.read d at_ n=(2,[],d):=by unfold Rg.read;rw[if_pos nI]
  rw[hres];clear hres;have GM:=aa nI;clear nI h;go_enter Tryz.func335,Tryz.ntmps335;go_wp2_with fail;obtain⟨bx,mg⟩:=ae w.heap.size;obtain⟨w1,aX⟩:=ae (w.alloc (.cells #[.pointer (some ⟨r,0,none⟩)] 44));have hb1:=aJ aX;have ha1:=aH aX mg;rw[aX,mg];have x1:=ha1.cl 0;have kY:=HH.o.keep hb1;have y1:=kY.own.cl 0;have bu:=aa hb1;have dH:=aa ha1;have P9:=aa kY;have yb:=aa mg;clear hb1 ha1 kY mg aX;refine ah (nT r p w1 y1) ?_;go_wp2_with fail;refine(vU P9.o at_ n hat hn).mono ?_;rintro e w2 ⟨rfl,hb2⟩;rw[GM.o];have x2:w2.cell? ⟨bx,0,none⟩=some (.pointer (some ⟨r,0,none⟩)):=(hb2.cell (p:=⟨bx,0,none⟩) (bz _ _ x1)).trans x1;have cx:=aa (show Below w.heap.size w w2 from ar bu.o hb2);have jI:=aa (show aD w2 bx 44 #[.pointer (some ⟨r,0,none⟩)] from dH.o.keep hb2);clear hb2;go_wp2_with fail;go_ret2;exact⟨⟨none,0,rfl,fun h=>absurd rfl h,aL _⟩,(aC p d).ai HD.o cx.o,aG.aU cx.o⟩
 | false=>
  have hres:g.read d at_ n=H7 g d (pieces d.dk.size n at_ n) []:=by unfold Rg.read;rw[if_neg (by rw[nI];simp),Int.toNat_natCast,Int.toNat_natCast]
  rw[hres];clear hres;have GM:=aa nI;clear nI h;go_enter Tryz.func335,Tryz.ntmps335;go_wp2_with fail;obtain⟨bx,mg⟩:=ae w.heap.size;obtain⟨w1,aX⟩:=ae (w.alloc (.cells #[.pointer (some ⟨r,0,none⟩)] 44));have hb1:=aJ aX;have ha1:=aH aX mg;rw[aX,mg];have x1:=ha1.cl 0;have kY:=HH.o.keep hb1;have y1:=kY.own.cl 0;have bu:=aa hb1;have dH:=aa ha1;have P9:=aa kY;have yb:=aa mg;clear hb1 ha1 kY mg aX;refine ah (nT r p w1 y1) ?_;go_wp2_with fail;refine(vU P9.o at_ n hat hn).mono ?_;rintro e w2 ⟨rfl,hb2⟩;rw[GM.o];have x2:w2.cell? ⟨bx,0,none⟩=some (.pointer (some ⟨r,0,none⟩)):=(hb2.cell (p:=⟨bx,0,none⟩) (bz _ _ x1)).trans x1;have cx:=aa (show Below w.heap.size w w2 from ar bu.o hb2);have jI:=aa (show aD w2 bx 44 #[.pointer (some ⟨r,0,none⟩)] from dH.o.keep hb2);clear hb2;obtain⟨w3,hw3⟩:=ae (w2.alloc (.cells #[.slice none 0 0] 34));obtain⟨o,ho⟩:=ae w2.heap.size;have hb3:=aJ hw3;have z3:(w2.alloc (.cells #[.slice none 0 0] 34)).cell? ⟨bx,0,none⟩=some (.pointer (some ⟨r,0,none⟩)):=by rw[hw3];exact(hb3.cell (p:=⟨bx,0,none⟩) (bz _ _ x2)).trans x2
  have HZ3:=aa z3;have hO3:=aH hw3 ho;have hI:RdI S w w3.heap.size bx o r p d.dk.size g (H7 g d (pieces d.dk.size n at_ n) []) (pieces d.dk.size n at_ n) w3:=by
   have hb:Below w.heap.size w w3:=ar cx.o hb3;refine⟨HH.o.keep hb,(hb3.cell (p:=⟨bx,0,none⟩) (bz _ _ x2)).trans x2,aL _,⟨d,[],.slice none 0 0,(aC p d).ai HD.o hb,HDK.o,rfl,hO3,World.ownsRow_nil _ _ _ _,rfl,?_⟩,pG _ HDK.o.size.1 _ _ _ (aL _),aG.aU hb⟩;rw[nC _ HDK.o.size.1 _ _ _ (aL _)];simpa using hn
  have hRO:RdO S w w3.heap.size bx o r:=by
   have h1:=cx.o.size;have h2:o<w3.heap.size:=hO3.lt;have h3:bx<o:=by rw[←ho];exact bz _ _ x2
   have h4:=yb.o;exact⟨⟨ag,ag⟩,⟨ag,h2,ag⟩,⟨HH.o.own.lt,HR.o⟩,HS.o⟩
  have HI:=aa hI;have HRO:=aa hRO;have Ir:=aa hw3;have HOO:=aa ho;clear hb3 hO3 hI hRO hw3;go_wp2_with fail;rw[Ir.o];refine(R1 w3 #[.pointer (some ⟨bx,0,none⟩),.pointer (some ⟨o,0,none⟩)] at_ n (RdI S w w3.heap.size bx o r p d.dk.size g (H7 g d (pieces d.dk.size n at_ n) [])) (RdE S w p (H7 g d (pieces d.dk.size n at_ n) [])) HDK.o.size HH.o.Pa ?_ (fun ps W h=>h.rg) (fun x ps W h=>afg HRO.o h) HI.o).mono ?_
  ·have:=GM.o;unfold Rg.bad at this;have hbl:=HH.o.e8;simp only[Bool.or_eq_false_iff,decide_eq_false_iff_not] at this;omega
  rintro e w4 hor;rcases hor with⟨rfl,h4⟩|⟨er,oU,rfl,h4⟩
  ·obtain⟨d',acc,v,hD4,_,_,hv4,JF,JW,_⟩:=h4.body;have oI:=aa JW;obtain⟨A4,c4,rfl⟩:=cg JF;have y4:w4.cell? ⟨o,0,none⟩=some (.slice A4 acc.length c4):=hv4.cell 0;have HF:=aa (show PRd S p (0,acc,d') w (.returned (.tuple #[.slice A4 acc.length c4,.int .i64 0])) w4 from by
    refine⟨⟨A4,c4,rfl,fun hne=>?_,?_⟩,hD4,h4.cG⟩
    ·rcases JF.2 with⟨e0,e1⟩|⟨g4,cap,cur,e0,e1,e2,e3,e4,e5,e6⟩
     ·exact absurd (List.eq_nil_of_length_eq_zero e1) hne
     injection e0 with e0 _ e7
     subst e0 e7;have cK:=mV JF rfl;exact⟨g4,rfl,bf (bf HRO.o.ho.1 (Nat.le_of_lt HRO.o.ho.2.1)) cK.2.2.1,cK.1⟩
    rcases JF.2 with⟨e0,e1⟩|⟨g4,cap,cur,e0,e1,e2,e3,e4,e5,e6⟩
    ·show acc.length≤c4;omega
    injection e0 with e0 _ e7
    subst e0 e7;exact e3)
   clear h4 hD4 hv4 JF JW HI;go_wp2_with fail;go_ret2;rw[oI.o];exact HF.o
  obtain⟨d',JW,hD4,jU⟩:=h4;have oI:=aa JW;have hq:(er==0)=false:=wW;have HF:=aa (show PRd S p (er,[],d') w (.returned (.tuple #[.slice none 0 0,.int .i64 er])) w4 from⟨⟨none,0,rfl,fun h=>absurd rfl h,aL _⟩,hD4,jU⟩);clear JW hD4 jU HI oU;go_wp2_with fail;go_ret2;rw[oI.o];exact HF.o
end En
end
section
namespace Rf
open En (xW BN gz)
theorem abQ(n s:Nat)(hn:1≤n∧n≤65536)(hs:s=64∨s=128)(w:World): Calls af 226 #[.int .i64 n,.int .i64 s] w fun e w'=>e= .returned (.bool true)∧Below w.heap.size w w':=by
 have h1:(1:Int)≤(n:Int):=ag;have h2:(n:Int)≤65536:=ag;have e1:bm bH aT 64 63=0:=aM;have e2:bm bH aT 128 127=0:=aM;rcases hs with rfl|rfl
 ·go_enter Tryz.func226,Tryz.ntmps226;exact Wq
 go_enter Tryz.func226,Tryz.ntmps226;exact Wn
structure SS(w wr:World)(p s k:Nat)(v:Value)(ad cp:Nat→Nat): Prop where
 own:aD wr p 335 #[v,.slice none 0 0]
 row:aO (fun g=>w.heap.size≤g) wr 34 1 v k (fun i=>[.slice (some ⟨ad i,0,none⟩) s (cp i)])
 each: ∀ i,i<k→eC wr 5 (ad i) (dW s 0)∧s≤cp i∧w.heap.size≤ad i
 alone: ∀ i j,i<k→j<k→ad i=ad j→i=j
 ai:Below w.heap.size w wr
 news:w.heap.size≤p
def aeB(n s:Nat)(w:World)(e:Ending)(w':World): Prop:=∃ p v ad cp,e= .returned (.tuple #[.pointer (some ⟨p,0,none⟩),.int .i64 0])∧SS w w' p s n v ad cp
theorem abO(n s:Nat)(hn:1≤n∧n≤65536)(hs:s=64∨s=128)(w:World): Calls af 116 #[.int .i64 n,.int .i64 s] w (aeB n s w):=by
 obtain⟨i0,yZ,hz0,hz1,hz2⟩:=info_parts Oc.dX;obtain⟨j0,Ta,hy0,hy1,Z6⟩:=info_parts gz;have HM:=aa (abQ n s hn hs);have pN:(n:Int)≤65536:=ag;have hs0:(0:Int)≤(s:Int):=ag;have hs1:(s:Int)≤128:=by rcases hs with rfl|rfl <;>simp
 have HN:=aa hn;have HS:=aa hs;have HS0:=aa (show 0<s by rcases hs with rfl|rfl <;>decide);clear hs hn;obtain⟨p,hp⟩:=ae w.heap.size;obtain⟨w1,aX⟩:=ae (w.alloc (.cells #[.slice none 0 0,.slice none 0 0] 335));have dH:=aa (aH aX hp);have Iv:=aa (aJ aX);have HP:=aa (show w.heap.size≤p from ag);go_enter Tryz.func116,Tryz.ntmps116;go_wp2_with fail;refine(HM.o w1).mono ?_;rintro e w2 ⟨rfl,hb2⟩;have hst:SS w w2 p s 0 (.slice none 0 0) (fun _=>0) (fun _=>0):=
  ⟨dH.o.keep hb2,aO.nil _ _ _ _ _,fun i hi=>absurd hi (kU i),fun i j hi=>absurd hi (kU i),ar Iv.o hb2,HP.o⟩
 have HST:=aa hst;clear hb2 HM hst aX hp dH Iv HP;go_wp2_with fail;go_loopw [7] (fun i wr=>∃ (k:Nat) (v:Value) (ad cp:Nat→Nat),k≤n∧i= .int .i64 k∧SS w wr p s k v ad cp) (fun i _=>(n - intOf i).toNat)
 case atStart=>exact⟨0,_,_,_,ag,rfl,HST.o⟩
 case round=>
  obtain⟨k,v,ad,cp,hk,rfl,hI⟩:=hrel;have HI:=aa hI;clear hI HST;by_cases h:k<n
  ·have h':(k:Int)<(n:Int):=by omega
   have x1:=HI.o.own.cl 0;go_wp2_with fail;refine dN aW ?_;refine bc.any (S:=(fun w'=>w'.cell? ⟨p,0,none⟩=some v)) (t:=11) _ _ _ _ ?_;have hHeld:=(show(fun w'=>w'.cell? ⟨p,0,none⟩=some v) wr.drew from x1);refine tt 0 ?_;refine tt 1 ?_;refine tt 2 ?_;refine tt 3 ?_;refine tt 4 ?_;refine tt 5 ?_;refine bc.step (i:=6) aW aW rfl (fun K hK=>?_);rw[if_pos iN];refine mP _ (.tmp 25) (.tmp 25) 34 rfl 5 i0 (.int .u8 0) 1 ey yZ hz0 hz1 rfl aM s rfl rfl AG iM ?_;intro w4 hr4 hg4;have M6:Below wr.heap.size wr w4:=Below.grown (ay (aq _ _)) hg4 (aL _) dA;have x4:w4.cell? ⟨p,0,none⟩=some v:=(M6.cell (p:=⟨p,0,none⟩) HI.o.own.lt).trans x1;have hz4:wr.heap.size<w4.heap.size:=acz;have oI:=aa hr4;have gI:=aa M6;have HZ4:=aa hz4;clear hr4 hg4 M6 hz4;refine hK.out _ _ DO (fun qp=>?_);clear hK K;try simp only[aQ]
   refine bc.step (i:=7) aW aW rfl (fun K hK=>?_);have dR:Below wr.heap.size wr (w4.alloc (.cells #[.slice (some ⟨wr.heap.size,0,none⟩) s s] 34)):=aw gI.o _;have x5:(w4.alloc (.cells #[.slice (some ⟨wr.heap.size,0,none⟩) s s] 34)).cell? ⟨p,0,none⟩=some v:=(dR.cell (p:=⟨p,0,none⟩) HI.o.own.lt).trans x1;have eQ:=aa dR;clear dR;go_simp;go_wp2_with fail;refine hK.out _ _ DO (fun nK=>?_);clear hK K;try simp only[aQ]
   refine bc.step (i:=8) aW aW rfl (fun K hK=>?_);rw[if_pos iN];refine fA _ (.tmp 24) (.tmp 27) 33 rfl 34 j0 (.slice none 0 0) 1 24 Tryz.underlying33 Ta hy0 hy1 Z6 rfl aM v k (fun i=>[.slice (some ⟨ad i,0,none⟩) s (cp i)]) rfl (HI.o.row.keep eQ.o) ⟨w4.heap.size,0,none⟩ 1 [.slice (some ⟨wr.heap.size,0,none⟩) s s] rfl rfl (ik w4 _ _) AU iM ag ?_;intro ga ca w6 CK jG;have KX:=eQ.o.size;have S8: ∀ {g:Nat} {o:Obj},wr.heap[g]? =some o→(∀ c,o≠ .cells c 34 (0,0))→w6.heap[g]? =wr.heap[g]?:=fun {g o} ho hne=>by
    exact Wy
   have zz:aD w6 p 335 #[v,.slice none 0 0]:=(S8 HI.o.own (fun c e=>yt)).trans HI.o.own;have he6: ∀ i,i<k→eC w6 5 (ad i) (dW s 0):=fun i hi=>(HI.o.each i hi).1.same acv
   have hn6:eC w6 5 wr.heap.size (dW s 0):=by
    exact ado
   have Xz:Below w.heap.size w w6:=(ar HI.o.ai eQ.o).grown jG Us (fun g e=>HI.o.row.block g e);have m6:=zz.mark 0;have z6:=zz.cl 0;have zy:p≠ga:=CK.rX rfl zz (fun c e=>yt);have HR6:=aa CK;have NS:=aa zz;have HE6:=aa he6;have Le:=aa hn6;have jy:=aa Xz;have HPG:=aa zy;clear CK jG S8 zz he6 hn6 Xz zy KX;refine hK.out _ _ DO (fun nJ=>?_);clear hK K;try simp only[aQ]
   refine tp 9 ?_;refine tt 10 ?_;refine bc.last aW ?_;refine kI 11 aW aW ?_;simp only[tE,Hl];have hf:SS w (w6.setCell ⟨p,0,none⟩ (.slice (some ⟨ga,0,none⟩) (k+1) ca)) p s (k+1) (.slice (some ⟨ga,0,none⟩) (k+1) ca) (cO ad k wr.heap.size) (cO cp k s):=by
    have hpw:w.heap.size≤p:=HI.o.news;have hsc: ∀ g,g≠p→(w6.setCell ⟨p,0,none⟩ (.slice (some ⟨ga,0,none⟩) (k+1) ca)).heap[g]? =w6.heap[g]?:=fun g hg=>cH w6 ⟨p,0,none⟩ _ g hg
    have aa4: ∀ {g:Nat},eC w6 5 g (dW s 0)→g≠p:=fun {g} hb e=>by
     obtain⟨cur,hc,_⟩:=hb;have h2:=NS.o;rw[aD,←e,hc] at h2;injection h2 with h2
     injection h2 with _ h3
     revert h3;decide
    have hwr:w.heap.size≤wr.heap.size:=HI.o.ai.size;refine⟨by simpa using NS.o.put 0 (.slice (some ⟨ga,0,none⟩) (k+1) ca),?_,fun i hi=>?_,fun i j hi hj he=>?_,eK jy.o hpw _,HI.o.news⟩
    ·have h1:=(HR6.o.mono (T:=fun g=>w.heap.size≤g) (fun g hg _=>by
      rcases hg with hg|hg
      ·exact hg
      have:=eQ.o.size;omega)).Pq (hsc ga (Ne.symm HPG.o))
     exact adm
    ·by_cases e:i=k
     ·subst e;rw[bJ,bJ];exact⟨Le.o.same (hsc _ (aa4 Le.o)),aL _,hwr⟩
     exact acP
    exact adq
   exact ac0
  have h': ¬(k:Int)<(n:Int):=ag;have M0:k=n:=ag;have hd:=HI.o;rw[M0] at hd;have HF:=aa (show aeB n s w (.returned (.tuple #[.pointer (some ⟨p,0,none⟩),.int .i64 0])) wr from⟨p,_,_,_,rfl,hd⟩);clear hd M0;go_wp2_with fail;go_ret2;exact HF.o
