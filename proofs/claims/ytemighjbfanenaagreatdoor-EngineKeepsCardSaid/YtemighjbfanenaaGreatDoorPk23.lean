import Derived.Test.YtemighjbfanenaaGreatDoorPk21
import Derived.Lib.SlBytesConst
import Derived.Test.YtemighjbfanenaaGreatDoorPk2
import Derived.Test.YtemighjbfanenaaGreatDoorPk1
set_option linter.all false
set_option maxRecDepth 100000
set_option maxHeartbeats 16000000
namespace Go.Proofs.YtemighjbfanenaaGreatDoor
open RowKit
open Oc (iq Bs gj EH nu jQ Kn lH rf Yz ej cY lQ zE eV eL fJ aN eh bn bO le rU eZ dm mV tk qP dX val)
open Cr (cn iy)
open Go.Value renaming oneCell'→eA
open Go.World renaming block_lt_of_cell?→bz,grownBy→Hi
open List renaming length_take→gW,take→Hh,length_drop→tB
open Nat renaming min_le_left→Qt,pow_le_pow_right→CD,le_trans→bf,lt_of_lt_of_le→aP,le_refl→aL
open Option.some renaming inj→cN
open RowKit.Below renaming refl→aq
open Tryz renaming results364→zR,underlying129→cm,underlying266→Qu,prog→af,results334→zQ,results155→Qv
theorem adE{p:Prop}(h:p:=by
 go_enter Tryz.func68,Tryz.ntmps68;go_wp2_with fail;refine(HO.o _).mono ?_;rintro e w2 ⟨rfl,hb2⟩;obtain⟨w3,hw3⟩:=ae (w2.alloc (.cells #[.bool a1,.bool a2,.bool a3,.bool a4] 266));obtain⟨sb,k8⟩:=ae w2.heap.size;have dB:=aH hw3 k8;have hb3:=eH hb2 hw3;have dS:=dH.o.keep hb3;have s0:=dB.cl 0;have s1:=dB.cl 1;have s2:=dB.cl 2;have s3:=dB.cl 3;have r1:=dS.cl 1;have r2:=dS.cl 2;have r3:=dS.cl 3;have r4:=dS.cl 4;have ek:=bu.eo hb3;clear dB hb2 hb3 dS;go_wp2_with fail;refine ah (W1.o _) ?_;go_wp2_with fail;refine ah (W2.o _) ?_;go_wp2_with fail;refine ah (W3.o _) ?_;go_wp2_with fail;refine ah (W4.o _) ?_;go_wp2_with fail;go_ret;exact⟨oP,IV⟩):p:=h
theorem adB{p:Prop}(h:p:=by
 clear hk;go_enter Tryz.func155,Tryz.ntmps155;go_wp2_with (first|(refine aj rfl 351 _ _ rfl tb 351 _ Mi cx.o rfl rfl rfl pF wZ ?_;intro w3 dB hg3 hs3;have T3:aG (· =tb) w2 w3:=(aG.refl _ _).grown hg3 (fun k e=>.inl (cN e).symm);have dS:=T3.arr jI.o jV.o;have iO:=aa dS;have jR:=aa T3;have pq:=aa dB;clear dB hg3 hs3 T3 dS)|(refine aj rfl 266 _ _ rfl rb 266 _ #[.bool false,.bool false,.bool false,.bool false] iO.o rfl rfl rfl ou tZ ?_;intro w4 mh hg4 tL;have po:=aa mh;have uZ:=aa hg4;clear mh hg4 tL));have hb3:Below w.heap.size w w3:=aG.nz jl.o jR.o (fun k hk=>acA);exact bodyPost_ret (results_cell_tmp Qv _ iN (aI 266 po.o _ Qu rfl ou)) rfl ⟨by rw[HKK.o.1,HKK.o.2];rfl,ahv⟩):p:=h
theorem Jf{p:Prop}(h:p:=by
 have hb3:Below w.heap.size w w3:=aG.nz jl.o jR.o (fun k hk=>acA);exact bodyPost_ret (results_cell_tmp Qv _ iN (aI 266 po.o _ Qu rfl ou)) rfl ⟨iN,ahv⟩):p:=h
theorem adt{p:Prop}(h:p:=by
 go_wp2_with (first|(refine aj rfl 129 _ _ rfl r 129 _ #[.int .u64 0,.int .u64 0,.int .i64 0,.int .u32 0] ahg.o rfl rfl rfl aY (cz Hd.zero) ?_;intro wz il eT hsz;have lI:=aa il;have iP:=aa eT;clear il eT hsz));refine bodyPost_ret (results_cell_tmp zR _ iN (aI 129 lI.o _ cm rfl aY)) rfl ⟨⟨81,?_,?_⟩,br ag8.o iP.o AP⟩
 ·rw[HNO.o];rfl
 rw[HNO.o];simp):p:=h
theorem VQ{p:Prop}(h:p:=by
 go_enter Tryz.func156,Tryz.ntmps156;go_wp2_with fail;go_ret;exact⟨rfl,rfl⟩):p:=h
theorem ahv{p:Prop}(h:p:=by first|exact br hb3 uZ.o (by have:=tP.o;omega)|(rw[tP.o.1] at hb3;exact br hb3 uZ.o (aL _))):p:=h
theorem tZ{p:Prop}(h:p:=by simp[eA]):p:=h
theorem IV{p:Prop}(h:p:=by first|exact ek.o|(rw[tP.o];exact ek.o)|(have:=ek.o;rw[tP.o] at this;exact this)):p:=h
theorem Ua{p:Prop}(h:p:=by obtain⟨g',o',e',h1,_⟩:=HB.o (by intro e;have:=HN.o;rw[e] at this;simp at this;omega);injection e' with e';injection e' with e';omega):p:=h
theorem OK{p:Prop}(h:p:=by rw[←hv];exact aP (Oc.Ae _) (CD (by decide) (by rw[gW];exact Qt _ _))):p:=h
theorem Ao{p:Prop}(h:p:=by injection e with e;subst e;exact To.o hk):p:=h
theorem acA{p:Prop}(h:p:=by have:=tP.o;have e:k=tb:=hk;omega):p:=h
theorem U'{p:Prop}(h:p:=by unfold recKind;rw[Bool.and_eq_false_iff,decide_eq_false_iff_not,decide_eq_false_iff_not];omega):p:=h
theorem FE{p:Prop}(h:p:=by injection e with e;subst e;exact .inr hrw):p:=h
theorem UX{p:Prop}(h:p:=by have h1:=bz w _ (HT.o 0 (by decide));have h2:=HQW.o;simp only at h1;omega):p:=h
theorem AP{p:Prop}(h:p:=by have:=CQ.o;omega):p:=h
theorem alc{p:Prop}(h:p:=by intro e;have:=HN.o;rw[e] at this;simp at this;omega):p:=h
theorem FB{p:Prop}(h:p:=by have:=jd.o;have:=KF.o.size;omega):p:=h
theorem oP{p:Prop}(h:p:=by rw[HE.o];rfl):p:=h
theorem Fz{p:Prop}(h:p:=by have h1:=yb.o;have h2:=EK.o;omega):p:=h
theorem UJ{p:Prop}(h:p:=by have h1:=bz w _ (HT.o 0 (by decide));simp only at h1;omega):p:=h
theorem wZ{p:Prop}(h:p:=by simp[Mi,eA]):p:=h
theorem ak9{p:Prop}(h:p:=by have:=tP.o;omega):p:=h
theorem ak8{p:Prop}(h:p:=by rw[gW];exact Qt _ _):p:=h
theorem LU{p:Prop}(h:p:=by have h1:=HQ.o;have h2:=HRL.o;omega):p:=h
theorem Ub{p:Prop}(h:p:=by simp[od,eA]):p:=h
theorem wR{p:Prop}(h:p:=by simp[mA]):p:=h
theorem E6{p:Prop}(h:p:=by exact⟨u1,u2⟩):p:=h
section
namespace En
theorem uK(h:Hd): (uL h).length=28:=by simp[uL,uO,Oc.bM]
theorem mX(h:Hd): (Ig h).length=32:=by simp[Ig,uK,Oc.bM]
structure Hd.Fit(h:Hd): Prop where
 gen:h.gen<18446744073709551616
 lZ:h.lZ<18446744073709551616
 len:h.len≤67108864
 sum:h.sum<4294967296
def ad7(h:Hd)(w:World)(e:Ending)(w':World): Prop:=
 ∃ A c,e= .returned (.tuple #[.slice A 32 c,.int .i64 0])∧Bs w' A (Ig h)∧Below w.heap.size w w'∧32≤c∧(∀ g off,A=some ⟨g,off,none⟩→w.heap.size≤g)
theorem NF(h:Hd)(w:World)(hm:h.may=true)(hf:h.Fit)(ht:cn w): Calls af 301 #[.agg (od h)] w (ad7 h w):=by
 have Lf:=aa fun W=>Gw h W
 rw[hm] at Lf;unfold od at Lf ⊢;obtain⟨gen,lZ,len,sum⟩:=h;simp only at Lf ⊢;have HF:=aa hf;have HT:=aa ht;clear hf ht hm;have hln:(0:Int)≤(len:Int):=ag;have hl4:(len:Int)≤67108864:=by have:=HF.o.len;simp only at this;omega
 have anN:IntKind.u32.wrap ((len:Nat):Int)=((len:Nat):Int):=IntWalk.u32_in _ ag;go_enter Tryz.func301,Tryz.ntmps301;go_wp2_with fail;obtain⟨b,hb⟩:=ae w.heap.size;obtain⟨w0,hw0⟩:=ae (w.alloc (.cells #[.int .u64 (gen:Nat),.int .u64 (lZ:Nat),.int .i64 (len:Nat),.int .u32 (sum:Nat)] 129));have hb0:=aJ hw0;have ha0:=aH hw0 hb;rw[hw0,hb];have HB:=aa hb;have Iv:=aa hb0;have HA0:=aa ha0;clear hw0 hb hb0 ha0;refine(Lf.o w0).mono ?_;rintro e wa ⟨rfl,Ih⟩;have hab:aD wa b 129 #[.int .u64 (gen:Nat),.int .u64 (lZ:Nat),.int .i64 (len:Nat),.int .u32 (sum:Nat)]:=HA0.o.keep Ih;have Tx:=aa (show Below w.heap.size w wa from ar Iv.o Ih);have HAB:=aa hab;clear Ih hab;have hcv:(convert 34 34 (.slice (some ⟨wa.heap.size+1,0,none⟩) 4 4)).run af ((wa.alloc (.cells #[.slice none 0 0] 150)).alloc (.cells #[.int .u8 71,.int .u8 65,.int .u8 78,.int .u8 71] 5))= .ok (.slice (some ⟨wa.heap.size+1,0,none⟩) 4 4) ((wa.alloc (.cells #[.slice none 0 0] 150)).alloc (.cells #[.int .u8 71,.int .u8 65,.int .u8 78,.int .u8 71] 5 (4,5))):=by
  have:=Go.Lib.run_convert_bytes_const (P:=af) (wa.alloc (.cells #[.slice none 0 0] 150)) 34 5 #[.int .u8 71,.int .u8 65,.int .u8 78,.int .u8 71] 4 4 Tryz.underlying34 Tryz.underlying5;rw[World.size_alloc] at this;exact this
 go_wp2_with fail;obtain⟨p,hp⟩:=ae wa.heap.size;have hp1:b+1≤p:=by rw[←hp];exact aP HAB.o.lt (aL _)
 obtain⟨w1,aX⟩:=ae (((wa.alloc (.cells #[.slice none 0 0] 150)).alloc (.cells #[.int .u8 71,.int .u8 65,.int .u8 78,.int .u8 71] 5 (4,5))));have aaM:eL w1 p []:=by rw[←aX,←hp];exact(Oc.eL.fresh wa).keep (aw (aq _ _) _)
 have hb1:Below wa.heap.size wa w1:=by rw[←aX];exact aw (aw (aq _ _) _) _
 have ha1:aD w1 b 129 #[.int .u64 (gen:Nat),.int .u64 (lZ:Nat),.int .i64 (len:Nat),.int .u32 (sum:Nat)]:=HAB.o.keep hb1;have kY:w1.heap[p+1]? =some (.cells #[.int .u8 71,.int .u8 65,.int .u8 78,.int .u8 71] 5 (4,5)):=by
  have hsz:(wa.alloc (.cells #[.slice none 0 0] 150)).heap.size=wa.heap.size+1:=World.size_alloc _ _;rw[←aX,←hp,←hsz];show((wa.alloc (.cells #[.slice none 0 0] 150)).heap.push _)[(wa.alloc (.cells #[.slice none 0 0] 150)).heap.size]? =_
  exact Array.getElem?_push_size
 have hgB:Bs w1 (some ⟨p+1,0,none⟩) uO:=fun _=>⟨p+1,0,rfl,(Array.getElem?_eq_some_iff.1 kY).1,fun i u hu=>by
  rw[Nat.zero_add,show w1.cell? ⟨p+1,i,none⟩=(#[Value.int .u8 71,.int .u8 65,.int .u8 78,.int .u8 71]:Array Value)[i]? from by simp[World.cell?,kY],←hu,←Array.getElem?_toList];rfl⟩
 rw[hp];rw[aX];have x0:=ha1.cl 0;have x1:=ha1.cl 1;have x2:=ha1.cl 2;have x3:=ha1.cl 3;have jd:=aa ha1.lt;have HP:=aa hp1;have HPE:=aa hp;have GH:=aa hgB;have Y7:=aa aaM;have bu:=aa (show Below w.heap.size w w1 from ar Tx.o hb1);clear aaM hb1 ha1 kY hgB aX hp1 hp;refine(Oc.zE p [] uO ⟨p+1,0,none⟩ 4 w1 Y7.o GH.o aM aM).mono ?_;rintro en w2 ⟨⟨u,rfl⟩,Jv,qW⟩;have IB:w2.cell? ⟨b,0,none⟩=some (.int .u64 (gen:Nat)):=(qW.cells rN ij 0).trans x0;have Iz:w2.cell? ⟨b,1,none⟩=some (.int .u64 (lZ:Nat)):=(qW.cells rN ij 1).trans x1;have Ix:w2.cell? ⟨b,2,none⟩=some (.int .i64 (len:Nat)):=(qW.cells rN ij 2).trans x2;have acr:w2.cell? ⟨b,3,none⟩=some (.int .u32 (sum:Nat)):=(qW.cells rN ij 3).trans x3;have P5:=aa (qW);have Y6:=aa Jv;clear Jv qW x0 x1 x2 x3;go_wp2_with fail;refine(Oc.ej p gen _ w2 Y6.o (by simp[uO]) HF.o.gen).mono ?_;rintro en w3 ⟨⟨u,rfl⟩,Ju,qV⟩;have IA:w3.cell? ⟨b,0,none⟩=some (.int .u64 (gen:Nat)):=(qV.cells Ak ij 0).trans IB;have Iy:w3.cell? ⟨b,1,none⟩=some (.int .u64 (lZ:Nat)):=(qV.cells Ak ij 1).trans Iz;have Iw:w3.cell? ⟨b,2,none⟩=some (.int .i64 (len:Nat)):=(qV.cells Ak ij 2).trans Ix;have acq:w3.cell? ⟨b,3,none⟩=some (.int .u32 (sum:Nat)):=(qV.cells Ak ij 3).trans acr;have P4:=aa (P5.o.trans qV);have Y5:=aa Ju;clear Ju qV IB Iz Ix acr;go_wp2_with fail;refine(Oc.ej p lZ _ w3 Y5.o (by simp[uO,Oc.bM]) HF.o.lZ).mono ?_;rintro en w4 ⟨⟨u,rfl⟩,Jt,qU⟩;have TD:w4.cell? ⟨b,0,none⟩=some (.int .u64 (gen:Nat)):=(qU.cells Aj ij 0).trans IA;have TC:w4.cell? ⟨b,1,none⟩=some (.int .u64 (lZ:Nat)):=(qU.cells Aj ij 1).trans Iy;have TB:w4.cell? ⟨b,2,none⟩=some (.int .i64 (len:Nat)):=(qU.cells Aj ij 2).trans Iw;have acp:w4.cell? ⟨b,3,none⟩=some (.int .u32 (sum:Nat)):=(qU.cells Aj ij 3).trans acq;have KF:=aa (P4.o.trans qU);have Y4:=aa Jt;clear Jt qU IA Iy Iw acq;go_wp2_with fail;refine(Oc.cY p len _ w4 Y4.o (by simp[uO,Oc.bM]) (by have:=HF.o.len;simp only at this;omega)).mono ?_;rintro en w5 ⟨⟨u,rfl⟩,Js,vS⟩;have anx:w5.cell? ⟨b,0,none⟩=some (.int .u64 (gen:Nat)):=(vS.cells FB ij 0).trans TD;have anw:w5.cell? ⟨b,1,none⟩=some (.int .u64 (lZ:Nat)):=(vS.cells FB ij 1).trans TC;have anv:w5.cell? ⟨b,2,none⟩=some (.int .i64 (len:Nat)):=(vS.cells FB ij 2).trans TB;have anu:w5.cell? ⟨b,3,none⟩=some (.int .u32 (sum:Nat)):=(vS.cells FB ij 3).trans acp;have P3:=aa (KF.o.trans vS);have Y3:=aa Js;clear Js vS TD TC TB acp;go_wp2_with fail;refine(Oc.cY p sum _ w5 Y3.o (by simp[uO,Oc.bM]) HF.o.sum).mono ?_;rintro en w6 ⟨⟨u,rfl⟩,Jr,Jy⟩;have KE:=aa (P3.o.trans Jy);have Y1:=aa Jr;clear Jr Jy;go_wp2_with fail;have mM:eL w6 p (uL ⟨gen,lZ,len,sum⟩):=by have:=Y1.o;exact this
 have hh:=uK ⟨gen,lZ,len,sum⟩;have hpn:w.heap.size≤p:=by have h1:=HB.o;have h2:=HP.o;omega
 have ht6:cn w6:=(HT.o.keep bu.o).cG KE.o (fun e=>UJ);refine(Oc.lQ p _ w6 mM ag).mono ?_;rintro en w6b ⟨A6,c6,rfl,vt,_,_,_,kB⟩;have wA:=aa (Oc.gj.bs (w:=w6) vt);have Y8:=aa (mM.keep kB);have vu:=aa (ht6.keep kB);have jy:=aa kB;have HPN:=aa hpn;clear mM ht6 vt kB hpn;go_wp2_with fail;refine(Cr.qy _ A6 c6 w6b wA.o vu.o (by rw[hh];decide)).mono ?_;rintro e wq ⟨rfl,hwq⟩;rw[hwq];clear hwq wq hh;go_wp2_with fail;have hl7:(uL ⟨gen,lZ,len,sum⟩).length≤67108900:=by rw[uK];decide
 refine(cY p _ _ w6b Y8.o hl7 (Cr.Nq 0 _ aM)).mono ?_;rintro en w7 ⟨⟨u7,rfl⟩,zx,ht7⟩;have ahZ:eL w7 p (Ig ⟨gen,lZ,len,sum⟩):=zx;have P1:=aa ahZ;have HT7:=aa ht7;clear zx ht7 ahZ hl7;go_wp2_with fail;refine(Oc.lQ p _ w7 P1.o (by rw[mX];decide)).mono ?_;rintro en w8 ⟨A8,c8,rfl,Nh,hc8,hf8,_,mC⟩;have h1:aG (· =p) w1 w8:=(((KE.o.ai jy.o).trans HT7.o).ai mC);have wH:Below w.heap.size w w8:=h1.fresh bu.o (fun k e=>by have:=HPN.o;omega);have hlen:=mX ⟨gen,lZ,len,sum⟩;have SE:=aa (show ad7 ⟨gen,lZ,len,sum⟩ w (.returned (.tuple #[.slice A8 32 c8,.int .i64 0])) w8 from⟨A8,c8,rfl,Oc.gj.bs (w:=w7) Nh,wH,by rw[hlen] at hc8;exact hc8,fun g off e=>bf (bf (bf bu.o.size KE.o.size) (bf jy.o.size HT7.o.size)) (hf8 g off e).1⟩);rw[hlen];clear h1 wH hlen Nh hc8 hf8 mC;go_wp2_with fail;go_ret2;exact SE.o
end En
end
section
namespace En
theorem sU(there:Bool)(n lo hi:Int)(w:World): Calls af 156 #[.bool there,.int .i64 n,.int .i64 lo,.int .i64 hi] w fun e w'=>e= .returned (.bool (within there n lo hi))∧w'=w:=by
 unfold within;cases there with
 | false=>
  rw[if_neg dA];have h0:(n==0)=decide (n=0):=by rw[Bool.eq_iff_iff];simp
  exact VQ
 | true=>
  rw[if_pos rfl];by_cases h1:lo≤n
  ·rw[show decide (lo≤n)=true from wU,Bool.true_and];exact VQ
  rw[show decide (lo≤n)=false from wU,Bool.false_and];exact VQ
def shV(k:Int): Array Value:=#[.bool (dK k).1,.bool (dK k).2.1,.bool (dK k).2.2.1,.bool (dK k).2.2.2]
theorem ou: (af.info? 266).map (·.size)=some 4:=aW
def ajE(k:Int)(w:World)(e:Ending)(w':World): Prop:=e= .returned (.tuple #[.agg (shV k),.bool (recKind k)])∧Below w.heap.size w w'
end En
end
section
namespace En
theorem pF: (af.info? 351).map (·.size)=some 24:=aW
def Mi: Array Value:=#[.bool false,.bool false,.bool false,.bool false,.bool true,.bool true,.bool true,.bool false,.bool true,.bool false,.bool false,.bool false,.bool true,.bool false,.bool false,.bool false,.bool true,.bool true,.bool false,.bool false,.bool false,.bool false,.bool false,.bool true]
theorem ahJ(k:Int)(w:World): Calls af 155 #[.int .i64 k] w (ajE k w):=by
 obtain⟨w1,aX⟩:=ae (w.alloc (.cells #[.bool false,.bool false,.bool false,.bool false] 266));obtain⟨rb,jc⟩:=ae w.heap.size;have bh:=aH aX jc;have hb1:=aJ aX;obtain⟨w2,hw2⟩:=ae (w1.alloc (.cells #[.bool false,.bool false,.bool false,.bool false,.bool false,.bool false,.bool false,.bool false,.bool false,.bool false,.bool false,.bool false,.bool false,.bool false,.bool false,.bool false,.bool false,.bool false,.bool false,.bool false,.bool false,.bool false,.bool false,.bool false] 351));obtain⟨tb,htb⟩:=ae w1.heap.size;have nL:=aH hw2 htb;have hb2:=aJ hw2;have gK:=bh.keep hb2;have hne: ¬rb=tb:=by have:=bh.lt;omega
 have cx:=aa nL;have jI:=aa gK;have jl:=aa (ar hb1 hb2);have jV:=aa hne;have tP:=aa (And.intro jc (show w.heap.size≤tb by rw[←htb];exact hb1.size));clear bh hb1 nL hb2 gK hne;by_cases hk:1≤k∧k≤5
 ·have hk5:k=1∨k=2∨k=3∨k=4∨k=5:=by omega
  clear hk;rcases hk5 with rfl|rfl|rfl|rfl|rfl
  ·go_enter Tryz.func155,Tryz.ntmps155;go_wp2_with (first|(refine aj rfl 351 _ _ rfl tb 351 _ Mi cx.o rfl rfl rfl pF wZ ?_;intro w3 dB hg3 hs3;have T3:aG (· =tb) w2 w3:=(aG.refl _ _).grown hg3 (fun k e=>.inl (cN e).symm);have dS:=T3.arr jI.o jV.o;have iO:=aa dS;have jR:=aa T3;have pq:=aa dB;have c0:w3.cell? ⟨tb,4,none⟩=some (.bool true):=dB.cell 4;have c1:w3.cell? ⟨tb,5,none⟩=some (.bool true):=dB.cell 5;have c2:w3.cell? ⟨tb,6,none⟩=some (.bool true):=dB.cell 6;have c3:w3.cell? ⟨tb,7,none⟩=some (.bool false):=dB.cell 7;clear dB hg3 hs3 T3 dS)|(refine aj rfl 266 _ _ rfl rb 266 _ #[.bool true,.bool true,.bool true,.bool false] iO.o rfl rfl rfl ou tZ ?_;intro w4 mh hg4 tL;have po:=aa mh;have uZ:=aa hg4;clear mh hg4 tL));exact Jf
  ·go_enter Tryz.func155,Tryz.ntmps155;go_wp2_with (first|(refine aj rfl 351 _ _ rfl tb 351 _ Mi cx.o rfl rfl rfl pF wZ ?_;intro w3 dB hg3 hs3;have T3:aG (· =tb) w2 w3:=(aG.refl _ _).grown hg3 (fun k e=>.inl (cN e).symm);have dS:=T3.arr jI.o jV.o;have iO:=aa dS;have jR:=aa T3;have pq:=aa dB;have c0:w3.cell? ⟨tb,8,none⟩=some (.bool true):=dB.cell 8;have c1:w3.cell? ⟨tb,9,none⟩=some (.bool false):=dB.cell 9;have c2:w3.cell? ⟨tb,10,none⟩=some (.bool false):=dB.cell 10;have c3:w3.cell? ⟨tb,11,none⟩=some (.bool false):=dB.cell 11;clear dB hg3 hs3 T3 dS)|(refine aj rfl 266 _ _ rfl rb 266 _ #[.bool true,.bool false,.bool false,.bool false] iO.o rfl rfl rfl ou tZ ?_;intro w4 mh hg4 tL;have po:=aa mh;have uZ:=aa hg4;clear mh hg4 tL));exact Jf
  ·go_enter Tryz.func155,Tryz.ntmps155;go_wp2_with (first|(refine aj rfl 351 _ _ rfl tb 351 _ Mi cx.o rfl rfl rfl pF wZ ?_;intro w3 dB hg3 hs3;have T3:aG (· =tb) w2 w3:=(aG.refl _ _).grown hg3 (fun k e=>.inl (cN e).symm);have dS:=T3.arr jI.o jV.o;have iO:=aa dS;have jR:=aa T3;have pq:=aa dB;have c0:w3.cell? ⟨tb,12,none⟩=some (.bool true):=dB.cell 12;have c1:w3.cell? ⟨tb,13,none⟩=some (.bool false):=dB.cell 13;have c2:w3.cell? ⟨tb,14,none⟩=some (.bool false):=dB.cell 14;have c3:w3.cell? ⟨tb,15,none⟩=some (.bool false):=dB.cell 15;clear dB hg3 hs3 T3 dS)|(refine aj rfl 266 _ _ rfl rb 266 _ #[.bool true,.bool false,.bool false,.bool false] iO.o rfl rfl rfl ou tZ ?_;intro w4 mh hg4 tL;have po:=aa mh;have uZ:=aa hg4;clear mh hg4 tL));exact Jf
  ·go_enter Tryz.func155,Tryz.ntmps155;go_wp2_with (first|(refine aj rfl 351 _ _ rfl tb 351 _ Mi cx.o rfl rfl rfl pF wZ ?_;intro w3 dB hg3 hs3;have T3:aG (· =tb) w2 w3:=(aG.refl _ _).grown hg3 (fun k e=>.inl (cN e).symm);have dS:=T3.arr jI.o jV.o;have iO:=aa dS;have jR:=aa T3;have pq:=aa dB;have c0:w3.cell? ⟨tb,16,none⟩=some (.bool true):=dB.cell 16;have c1:w3.cell? ⟨tb,17,none⟩=some (.bool true):=dB.cell 17;have c2:w3.cell? ⟨tb,18,none⟩=some (.bool false):=dB.cell 18;have c3:w3.cell? ⟨tb,19,none⟩=some (.bool false):=dB.cell 19;clear dB hg3 hs3 T3 dS)|(refine aj rfl 266 _ _ rfl rb 266 _ #[.bool true,.bool true,.bool false,.bool false] iO.o rfl rfl rfl ou tZ ?_;intro w4 mh hg4 tL;have po:=aa mh;have uZ:=aa hg4;clear mh hg4 tL));exact Jf
  go_enter Tryz.func155,Tryz.ntmps155;go_wp2_with (first|(refine aj rfl 351 _ _ rfl tb 351 _ Mi cx.o rfl rfl rfl pF wZ ?_;intro w3 dB hg3 hs3;have T3:aG (· =tb) w2 w3:=(aG.refl _ _).grown hg3 (fun k e=>.inl (cN e).symm);have dS:=T3.arr jI.o jV.o;have iO:=aa dS;have jR:=aa T3;have pq:=aa dB;have c0:w3.cell? ⟨tb,20,none⟩=some (.bool false):=dB.cell 20;have c1:w3.cell? ⟨tb,21,none⟩=some (.bool false):=dB.cell 21;have c2:w3.cell? ⟨tb,22,none⟩=some (.bool false):=dB.cell 22;have c3:w3.cell? ⟨tb,23,none⟩=some (.bool true):=dB.cell 23;clear dB hg3 hs3 T3 dS)|(refine aj rfl 266 _ _ rfl rb 266 _ #[.bool false,.bool false,.bool false,.bool true] iO.o rfl rfl rfl ou tZ ?_;intro w4 mh hg4 tL;have po:=aa mh;have uZ:=aa hg4;clear mh hg4 tL));exact Jf
 have HKK:=aa (show shV k= #[.bool false,.bool false,.bool false,.bool false]∧recKind k=false from⟨by unfold shV dK;rw[if_neg ag,if_neg ag,if_neg ag,if_neg ag,if_neg ag],U'⟩);by_cases h1:k<1
 ·have q1:decide (k<1)=true:=decide_eq_true h1;exact adB
 have q1:decide (k<1)=false:=decide_eq_false h1;have q2:decide (6≤k)=true:=zD;have h2:6≤k:=ag;exact adB
end En
end
section
namespace En
theorem Bg{k:Int}{a1 a2 a3 a4 ok:Bool}(h:dK k=(a1,a2,a3,a4))(hk:recKind k=ok)(w:World): Calls af 155 #[.int .i64 k] w fun e w'=>e= .returned (.tuple #[.agg #[.bool a1,.bool a2,.bool a3,.bool a4],.bool ok])∧Below w.heap.size w w':=by
 refine(ahJ k w).mono ?_;rintro e w' ⟨rfl,hb⟩;refine⟨?_,hb⟩;unfold shV;rw[h,hk]
def fF(r:Rec): Array Value:=#[.int .i64 r.ax,.int .u32 r.id,.int .i64 r.av,.int .i64 r.aR,.int .i64 r.ak]
def Qd(r:Rec)(w:World)(e:Ending)(w':World): Prop:=e= .returned (.int .i64 (if r.ok=true then 0 else 160))∧Below w.heap.size w w'
theorem fW(r:Rec)(w:World)(hid:0≤r.id∧r.id<4294967296): Calls af 68 #[.agg (fF r)] w (Qd r w):=by
 obtain⟨k,id,av,aR,ak⟩:=r;obtain⟨a1,a2,a3,a4,hh⟩: ∃ a1 a2 a3 a4,dK k=(a1,a2,a3,a4):=⟨_,_,_,_,rfl⟩;obtain⟨ok,fz⟩:=ae (recKind k);obtain⟨v1,h1⟩:=ae (within a1 id 1 4294967295);obtain⟨v2,h2⟩:=ae (within a2 av 0 1023);obtain⟨v3,h3⟩:=ae (within a3 aR 1 1099511627776);obtain⟨v4,h4⟩:=ae (within a4 ak 1 1099511627776);have HE:=aa (show(⟨k,id,av,aR,ak⟩:Rec).ok=(ok && v1 && v2 && v3 && v4)by unfold Rec.ok;simp only;rw[hh,fz,←h1,←h2,←h3,←h4]);have HO:=aa (fun W=>Bg hh fz W);have W1:=aa (show ∀ W,Calls af 156 #[.bool a1,.int .i64 id,.int .i64 1,.int .i64 4294967295] W fun e w'=>e= .returned (.bool v1)∧w'=W from fun W=>h1▸sU a1 id 1 4294967295 W);have W2:=aa (show ∀ W,Calls af 156 #[.bool a2,.int .i64 av,.int .i64 0,.int .i64 1023] W fun e w'=>e= .returned (.bool v2)∧w'=W from fun W=>h2▸sU a2 av 0 1023 W);have W3:=aa (show ∀ W,Calls af 156 #[.bool a3,.int .i64 aR,.int .i64 1,.int .i64 1099511627776] W fun e w'=>e= .returned (.bool v3)∧w'=W from fun W=>h3▸sU a3 aR 1 1099511627776 W);have W4:=aa (show ∀ W,Calls af 156 #[.bool a4,.int .i64 ak,.int .i64 1,.int .i64 1099511627776] W fun e w'=>e= .returned (.bool v4)∧w'=W from fun W=>h4▸sU a4 ak 1 1099511627776 W);have hwi:IntKind.i64.wrap id=id:=by rw[IntKind.wrap_i64];simp only at hid;omega
 dsimp only[fF];obtain⟨w1,aX⟩:=ae (w.alloc (.cells #[.int .i64 k,.int .u32 id,.int .i64 av,.int .i64 aR,.int .i64 ak] 58));obtain⟨rb,jc⟩:=ae w.heap.size;have bh:=aH aX jc;have hb1:=aJ aX;have x0:=bh.cl 0;have dH:=aa bh;have bu:=aa hb1;have tP:=aa jc;clear hh fz h1 h2 h3 h4 bh hb1;cases ok
 case false=>
  go_enter Tryz.func68,Tryz.ntmps68;go_wp2_with fail;refine(HO.o _).mono ?_;rintro e w2 ⟨rfl,hb2⟩;obtain⟨w3,hw3⟩:=ae (w2.alloc (.cells #[.bool a1,.bool a2,.bool a3,.bool a4] 266));obtain⟨sb,k8⟩:=ae w2.heap.size;have dB:=aH hw3 k8;have hb3:=eH hb2 hw3;have dS:=dH.o.keep hb3;have s0:=dB.cl 0;have s1:=dB.cl 1;have s2:=dB.cl 2;have s3:=dB.cl 3;have r1:=dS.cl 1;have r2:=dS.cl 2;have r3:=dS.cl 3;have r4:=dS.cl 4;have ek:=bu.eo hb3;clear dB hb2 hb3 dS;go_wp2_with fail;go_ret;exact⟨oP,IV⟩
 case true=>
  cases v1
  case false=>
   go_enter Tryz.func68,Tryz.ntmps68;go_wp2_with fail;refine(HO.o _).mono ?_;rintro e w2 ⟨rfl,hb2⟩;obtain⟨w3,hw3⟩:=ae (w2.alloc (.cells #[.bool a1,.bool a2,.bool a3,.bool a4] 266));obtain⟨sb,k8⟩:=ae w2.heap.size;have dB:=aH hw3 k8;have hb3:=eH hb2 hw3;have dS:=dH.o.keep hb3;have s0:=dB.cl 0;have s1:=dB.cl 1;have s2:=dB.cl 2;have s3:=dB.cl 3;have r1:=dS.cl 1;have r2:=dS.cl 2;have r3:=dS.cl 3;have r4:=dS.cl 4;have ek:=bu.eo hb3;clear dB hb2 hb3 dS;go_wp2_with fail;refine ah (W1.o _) ?_;go_wp2_with fail;go_ret;exact⟨oP,IV⟩
  case true=>
   cases v2
   case false=>
    go_enter Tryz.func68,Tryz.ntmps68;go_wp2_with fail;refine(HO.o _).mono ?_;rintro e w2 ⟨rfl,hb2⟩;obtain⟨w3,hw3⟩:=ae (w2.alloc (.cells #[.bool a1,.bool a2,.bool a3,.bool a4] 266));obtain⟨sb,k8⟩:=ae w2.heap.size;have dB:=aH hw3 k8;have hb3:=eH hb2 hw3;have dS:=dH.o.keep hb3;have s0:=dB.cl 0;have s1:=dB.cl 1;have s2:=dB.cl 2;have s3:=dB.cl 3;have r1:=dS.cl 1;have r2:=dS.cl 2;have r3:=dS.cl 3;have r4:=dS.cl 4;have ek:=bu.eo hb3;clear dB hb2 hb3 dS;go_wp2_with fail;refine ah (W1.o _) ?_;go_wp2_with fail;refine ah (W2.o _) ?_;go_wp2_with fail;go_ret;exact⟨oP,IV⟩
   case true=>
    cases v3
    case false=>
     go_enter Tryz.func68,Tryz.ntmps68;go_wp2_with fail;refine(HO.o _).mono ?_;rintro e w2 ⟨rfl,hb2⟩;obtain⟨w3,hw3⟩:=ae (w2.alloc (.cells #[.bool a1,.bool a2,.bool a3,.bool a4] 266));obtain⟨sb,k8⟩:=ae w2.heap.size;have dB:=aH hw3 k8;have hb3:=eH hb2 hw3;have dS:=dH.o.keep hb3;have s0:=dB.cl 0;have s1:=dB.cl 1;have s2:=dB.cl 2;have s3:=dB.cl 3;have r1:=dS.cl 1;have r2:=dS.cl 2;have r3:=dS.cl 3;have r4:=dS.cl 4;have ek:=bu.eo hb3;clear dB hb2 hb3 dS;go_wp2_with fail;refine ah (W1.o _) ?_;go_wp2_with fail;refine ah (W2.o _) ?_;go_wp2_with fail;refine ah (W3.o _) ?_;go_wp2_with fail;go_ret;exact⟨oP,IV⟩
    case true=>
     cases v4
     case false=>
      exact adE
     case true=>
      exact adE
end En
end
section
namespace En
theorem aY: (af.info? 129).map (·.size)=some 4:=aW
def YY(b:By)(w:World)(e:Ending)(w':World): Prop:=
 (∃ er:Int,e= .returned (.tuple #[.agg (od ((BF b).getD Hd.zero)),.int .i64 er])∧(er=0↔(BF b).isSome=true))∧Below w.heap.size w w'
theorem cz(h:Hd): (od h).all (·.oneCell')=true:=Ub
theorem Kj(b:By)(A:Option Addr)(c:Nat)(w:World)(hs:b.length<32): Calls af 364 #[.slice A b.length c] w (YY b w):=by
 have hr:BF b=none:=by unfold BF;rw[if_pos hs]
 have hs':(b.length:Int)<32:=ag;obtain⟨n,hn⟩:=ae b.length;rw[hn] at hs hs' ⊢;have HR:=aa hr;clear hr hn;obtain⟨w1,aX⟩:=ae (w.alloc (.cells #[.int .u64 0,.int .u64 0,.int .i64 0,.int .u32 0] 129));obtain⟨r,vq⟩:=ae w.heap.size;have hb1:=aJ aX;have ha1:=aH aX vq;have sK:=aa aX;have CQ:=aa vq;have bu:=aa hb1;have dH:=aa ha1;clear hb1 ha1;go_enter Tryz.func364,Tryz.ntmps364;go_wp2_with (first|(refine aj rfl 129 _ _ rfl r 129 _ #[.int .u64 0,.int .u64 0,.int .i64 0,.int .u32 0] dH.o rfl rfl rfl aY (cz Hd.zero) ?_;intro w3 dB hg3 hs3;have pq:=aa dB;have zI:=aa hg3;clear dB hg3 hs3));refine bodyPost_ret (results_cell_tmp zR _ iN (aI 129 pq.o _ cm rfl aY)) rfl ⟨⟨4,?_,?_⟩,br bu.o zI.o AP⟩
 ·rw[HR.o];rfl
 rw[HR.o];simp
theorem afR(b:By)(h:32≤b.length): BF b=if val (((((((b.take 32).drop 4).drop 8).drop 8).drop 4).drop 4).take 4)=iy 0 (b.take 28)∧(b.take 32).take 4=uO then
  (if Hd.may ⟨val (((b.take 32).drop 4).take 8),val ((((b.take 32).drop 4).drop 8).take 8),val (((((b.take 32).drop 4).drop 8).drop 8).take 4),val ((((((b.take 32).drop 4).drop 8).drop 8).drop 4).take 4)⟩=true then
   some ⟨val (((b.take 32).drop 4).take 8),val ((((b.take 32).drop 4).drop 8).take 8),val (((((b.take 32).drop 4).drop 8).drop 8).take 4),val ((((((b.take 32).drop 4).drop 8).drop 8).drop 4).take 4)⟩else none)else none:=by
 unfold BF;rw[if_neg ag];simp[afS,List.drop_take,List.take_take,List.drop_drop];by_cases hh:val (Hh 4 (List.drop 28 b))=iy 0 (Hh 28 b)∧Hh 4 b=uO
 ·rw[if_pos hh,if_pos hh];first|rfl|congr
 ·rw[if_neg hh,if_neg hh]
theorem X7{W:World}{g c:Nat}{bs:By}(h:eC W 5 g bs): (convert 34 9 (.slice (some ⟨g,0,none⟩) bs.length c)).run af W= .ok (.string ⟨bs.toArray⟩) W:=
 run_convert_bytes_back (P:=af) W 34 9 5 ⟨g,0,none⟩ c bs Tryz.underlying34 Tryz.underlying5 Tryz.underlying9 (by
  intro j hj;rw[gU];exact h.cell hj)
theorem NC(b:By)(g off c:Nat)(w:World)(hs:32≤b.length)(hB:Bs w (some ⟨g,off,none⟩) b)(hl:b.length≤268435456)(hc:b.length≤c)(ht:cn w): Calls af 364 #[.slice (some ⟨g,off,none⟩) b.length c] w (YY b w):=by
 have hs': ¬(b.length:Int)<32:=ag;have alE:(32:Int)≤(b.length:Int):=ag;have hc':(b.length:Int)≤(c:Int):=ag;have aoo:(32:Int)≤(c:Int):=ag;have aop:(28:Int)≤(c:Int):=ag;have alN:(28:Int)≤(b.length:Int):=ag;obtain⟨n,hn⟩:=ae b.length;have Il:(b.take 32).length=32:=E8;have HB:=aa hB;have HT:=aa ht;have HN:=aa hn;have Tz:=aa Il;rw[hn] at hs hs' alE hc hc' hl alN ⊢;clear hB ht hn Il;obtain⟨w1,aX⟩:=ae (w.alloc (.cells #[.int .u64 0,.int .u64 0,.int .i64 0,.int .u32 0] 129));obtain⟨r,vq⟩:=ae w.heap.size;have hb1:=aJ aX;have ha1:=aH aX vq;have GD:=EH (b.take 32) (some ⟨g,off,none⟩) c w1 ((HB.o.take 32).keep hb1) (dm _ _) (by rw[Tz.o];decide);rw[Tz.o] at GD;have GD:=aa GD;have sK:=aa aX;have CQ:=aa vq;have bu:=aa hb1;have dH:=aa ha1;clear hb1 ha1;go_enter Tryz.func364,Tryz.ntmps364;go_wp2_with fail;refine GD.o.mono ?_;rintro e w2 ⟨p,q,rfl,kX,hpw,hqw,hb2⟩;have M9:Below w.heap.size w w2:=ar bu.o hb2;have jI:=dH.jS hb2;have cx:=aa M9;have HP:=aa hpw;have HQ:=aa hqw;have oH:=aa kX;have HRL:=aa dH.o.lt;clear kX hpw hqw hb2 M9 GD;go_wp2_with fail;refine(Kn p q 4 (b.take 32) 0 w2 oH.o aM).mono ?_;rintro e w3 ⟨A3,c3,rfl,cK,K4,kX,CH⟩;rw[qP (by rw[Tz.o];decide)] at cK kX;simp only at cK kX;have h4:((b.take 32).take 4).length=4:=by rw[gW,Tz.o];decide
 obtain⟨g3,rfl,hg3,XN⟩:=cK (by intro e;rw[e] at h4;simp at h4);have hcv:=X7 (c:=c3) XN;rw[h4] at hcv;rw[qP (by rw[Tz.o];decide)];simp only;rw[h4];obtain⟨g4,hg4⟩:=ae ((b.take 32).take 4);rw[hg4] at hcv;have uZ:=aa hg4;have akh:=aa kX;have jR:=aa CH;have hL0:((b.take 32).drop 4).length=28:=by rw[tB,Tz.o]
 obtain⟨L0,af8⟩:=ae ((b.take 32).drop 4);rw[af8] at akh hL0;have HL0:=aa hL0;have HE0:=aa af8;obtain⟨isg,aaV⟩:=ae ((g4== [71,65,78,71]));have HIS:=aa aaV;clear cK K4 kX CH h4 XN hg3 hg4 oH hL0 af8;go_wp2_with fail;refine(nu p q L0 0 w3 akh.o).mono ?_;rintro e w4 ⟨rfl,kX,ht⟩;rw[qP (by rw[HL0.o];decide)] at kX ⊢;simp only at kX ⊢;obtain⟨v0,hv⟩:=ae (val (L0.take 8));rw[hv];have Jw:v0<256 ^ 8:=OK;have hL:(L0.drop 8).length=20:=by rw[tB,HL0.o]
 obtain⟨L1,Nd⟩:=ae (L0.drop 8);rw[Nd] at kX hL;have hvi:(v0:Int)<256 ^ 8:=by exact_mod_cast Jw
 have NQ:=aa kX;have nU:=aa (jR.o.trans ht);have HL1:=aa hL;have HV0:=aa hv;have vy:=aa Nd;have aoJ:=aa Jw;clear kX ht hL hv Nd Jw hvi;go_wp2_with fail;refine(nu p q L1 0 w4 NQ.o).mono ?_;rintro e w5 ⟨rfl,kX,ht⟩;rw[qP (by rw[HL1.o];decide)] at kX ⊢;simp only at kX ⊢;obtain⟨v1,hv⟩:=ae (val (L1.take 8));rw[hv];have Jw:v1<256 ^ 8:=OK;have hL:(L1.drop 8).length=12:=by rw[tB,HL1.o]
 obtain⟨L2,Nd⟩:=ae (L1.drop 8);rw[Nd] at kX hL;have hvi:(v1:Int)<256 ^ 8:=by exact_mod_cast Jw
 have am3:=aa kX;have pg:=aa (nU.o.trans ht);have HL2:=aa hL;have HV1:=aa hv;have wL:=aa Nd;have aoI:=aa Jw;clear kX ht hL hv Nd Jw hvi;go_wp2_with fail;refine(jQ p q L2 0 w5 am3.o).mono ?_;rintro e w6 ⟨rfl,kX,ht⟩;rw[qP (by rw[HL2.o];decide)] at kX ⊢;simp only at kX ⊢;obtain⟨v2,hv⟩:=ae (val (L2.take 4));rw[hv];have Jw:v2<256 ^ 4:=OK;have hL:(L2.drop 4).length=8:=by rw[tB,HL2.o]
 obtain⟨L3,Nd⟩:=ae (L2.drop 4);rw[Nd] at kX hL;have hvi:(v2:Int)<256 ^ 4:=by exact_mod_cast Jw
 have am2:=aa kX;have vu:=aa (pg.o.trans ht);have HL3:=aa hL;have HV2:=aa hv;have KI:=aa Nd;have amQ:=aa Jw;clear kX ht hL hv Nd Jw hvi;have hv2:(v2:Int)<4294967296:=by have:=amQ.o;omega
 have anP:(0:Int)≤(v2:Int):=ag;go_wp2_with fail;refine(jQ p q L3 0 w6 am2.o).mono ?_;rintro e w7 ⟨rfl,kX,ht⟩;rw[qP (by rw[HL3.o];decide)] at kX ⊢;simp only at kX ⊢;obtain⟨v3,hv⟩:=ae (val (L3.take 4));rw[hv];have Jw:v3<256 ^ 4:=OK;have hL:(L3.drop 4).length=4:=by rw[tB,HL3.o]
 obtain⟨L4,Nd⟩:=ae (L3.drop 4);rw[Nd] at kX hL;have hvi:(v3:Int)<256 ^ 4:=by exact_mod_cast Jw
 have abT:=aa kX;have HT7:=aa (vu.o.trans ht);have HL4:=aa hL;have HV3:=aa hv;have SF:=aa Nd;have aoH:=aa Jw;clear kX ht hL hv Nd Jw hvi;go_wp2_with fail;obtain⟨v4,hv4⟩:=ae (val (L4.take 4));obtain⟨CR,hCR⟩:=ae (iy 0 (b.take 28));have hres:BF b=if v4=CR∧g4=uO then(if Hd.may ⟨v0,v1,v2,v3⟩=true then some ⟨v0,v1,v2,v3⟩else none)else none:=by rw[afR b (by rw[HN.o];exact hs),HE0.o,vy.o,wL.o,KI.o,SF.o,HV0.o,HV1.o,HV2.o,HV3.o,hv4,hCR,uZ.o]
 have aaV:isg=decide (g4=uO):=by rw[←HIS.o,Bool.eq_iff_iff,beq_iff_eq,decide_eq_true_iff];rfl
 obtain⟨pc,hhb⟩:=ae w7.heap.size;obtain⟨w8,hw8⟩:=ae (w7.alloc (.cells #[.int .u64 (v0:Nat),.int .u64 (v1:Nat),.int .i64 (v2:Nat),.int .u32 (v3:Nat)] 129));have mC:=aJ hw8;have ha8:aD w8 pc 129 (od ⟨v0,v1,v2,v3⟩):=by rw[←hw8,←hhb];exact aD.fresh w7 _ _
 have XH:aG (· =q) w2 w8:=HT7.o.ai mC;have hqr:r≠q:=fun e=>LU
 have ajq:aD w8 r 129 #[.int .u64 0,.int .u64 0,.int .i64 0,.int .u32 0]:=XH.arr jI.o hqr;have abS:=aa (show lH w8 p q L4 0 from⟨abT.o.own.keep mC,abT.o.rest.keep mC⟩);have ajp:Bs w8 (some ⟨g,off,none⟩) b:=(HB.o.keep cx.o).cG XH fun g' o' e hlt hq=>by
  injection e with e;injection e with e
  have h1:g<w.heap.size:=Ua;have h2:=HQ.o;have h3:=bu.o.size;omega
 have CL:w.heap.size≤q:=bf bu.o.size HQ.o;have hT8:cn w8:=(HT.o.keep cx.o).cG XH (fun e=>UJ);rw[hw8,hhb];have agX:=aa hres;have ako:=aa aaV;have ru:=aa mC;have zg:=aa ha8;have ajY:=aa XH;have akS:=aa ajq;have akM:=aa ajp;have aeg:=aa hT8;have HV4:=aa hv4;have HCR:=aa hCR;have HQW:=aa CL;have HHB:=aa hhb;clear hres aaV mC ha8 XH hqr ajq ajp hT8 hv4 hCR CL hhb hw8;by_cases mA:v4=CR
 ·have k8:((v4:Int) != (CR:Int))=false:=by simp[mA]
  have Dj:(v4 != CR)=false:=wR;refine wp_region_held_drew (S:=(fun _=>True)) aW oN (fun hHeld=>?_);refine QN 0 2 3 ?_;refine cD 1 fun K hK=>?_
  go_simp;refine(jQ p q L4 0 w8.drew (show lH w8.drew p q L4 0 from⟨abS.o.own.keep (ay (aq _ _)),abS.o.rest.keep (ay (aq _ _))⟩)).mono ?_;rintro e w9 ⟨rfl,kX,ht⟩;rw[qP (by rw[HL4.o];decide)];simp only;rw[HV4.o];have WV:aG (· =q) w8 w9:=⟨ht.os,ht.tape,ht.output,ht.size,ht.block⟩;have EJ:=aa WV;clear kX ht WV;go_wp2_with fail;refine bW hK oN fun uM=>?_
  clear hK K;refine cD 4 fun K hK=>?_
  go_simp;have hB9:Bs w9 (some ⟨g,off,none⟩) (b.take 28):=(akM.o.cG EJ.o fun g' o' e hlt hq=>by
   injection e with e;injection e with e
   have h1:g<w.heap.size:=Ua;have h2:=HQW.o;omega).take 28
  have h28:(b.take 28).length=28:=by rw[gW,HN.o];omega
  have hSM:=Cr.qy (b.take 28) (some ⟨g,off,none⟩) c w9 hB9 (aeg.o.cG EJ.o (fun e=>UX)) (by rw[h28];decide);rw[h28,HCR.o] at hSM;refine ah hSM ?_;clear hB9 h28 hSM;go_wp2_with fail;refine bW hK oN fun oX=>?_
  clear hK K;refine OC 5 6 7 8 9 10 ?_;refine bF ?_;have afE:q<pc:=by
   obtain⟨_,_,h1,_⟩:=abT.o.rest.ex;have h2:=h1.lt;have h3:=HHB.o;omega
  have hqr:r≠q:=fun e=>LU
  have XP:aD w9 r 129 #[.int .u64 0,.int .u64 0,.int .i64 0,.int .u32 0]:=EJ.o.arr akS.o hqr;have dE:aD w9 pc 129 #[.int .u64 (v0:Nat),.int .u64 (v1:Nat),.int .i64 (v2:Nat),.int .u32 (v3:Nat)]:=EJ.o.arr zg.o ag;have XL:Below w.heap.size w w9:=(ajY.o.trans EJ.o).fresh cx.o (fun k e=>by have:=HQW.o;omega);have ahg:=aa XP;have pn:=aa dE;have ag8:=aa XL;have k0:=dE.cl 0;have k1:=dE.cl 1;have k2:=dE.cl 2;have k3:=dE.cl 3;clear afE hqr XP dE XL;clear k8 Dj;cases hi:isg with
  | false=>
   have HNO:=aa (show BF b=none from by rw[agX.o,if_neg (fun hh=>by have h1:=ako.o;rw[decide_eq_true hh.2,hi] at h1;cases h1)]);rw[Bool.not_false];clear hi mA;exact adt
  | true=>
   have hgg:g4=uO:=of_decide_eq_true (by rw[←ako.o,hi]);rw[Bool.not_true];have Lf:=Gw ⟨v0,v1,v2,v3⟩ w9;unfold od at Lf;simp only at Lf;have agR:=aa (show BF b=if Hd.may ⟨v0,v1,v2,v3⟩=true then some ⟨v0,v1,v2,v3⟩else none from by rw[agX.o,if_pos ⟨mA,hgg⟩]);obtain⟨my,hmy⟩:=ae (Hd.may ⟨v0,v1,v2,v3⟩);rw[hmy] at Lf agR;have Lf:=aa Lf;clear hmy hgg hi mA;go_wp2_with fail;refine Lf.o.mono ?_;rintro e wm ⟨rfl,hbm⟩;have hAm:=pn.o.keep hbm;have l0:=hAm.cl 0;have l1:=hAm.cl 1;have l2:=hAm.cl 2;have l3:=hAm.cl 3;have akQ:=ahg.jS hbm;have HBM:=aa (show Below w.heap.size w wm from ar ag8.o hbm);clear hAm hbm;cases my with
   | false=>
    have HNO:=aa (show BF b=none from by rw[agR.o];rfl);go_wp2_with (first|(refine aj rfl 129 _ _ rfl r 129 _ #[.int .u64 0,.int .u64 0,.int .i64 0,.int .u32 0] akQ.o rfl rfl rfl aY (cz Hd.zero) ?_;intro wz il eT hsz;have lI:=aa il;have iP:=aa eT;clear il eT hsz));refine bodyPost_ret (results_cell_tmp zR _ iN (aI 129 lI.o _ cm rfl aY)) rfl ⟨⟨2,?_,?_⟩,br HBM.o iP.o AP⟩
    ·rw[HNO.o];rfl
    rw[HNO.o];simp
   | true=>
    have uq:=aa (show BF b=some ⟨v0,v1,v2,v3⟩from by rw[agR.o];rfl);go_wp2_with (first|(refine aj rfl 129 _ _ rfl r 129 _ #[.int .u64 (v0:Nat),.int .u64 (v1:Nat),.int .i64 (v2:Nat),.int .u32 (v3:Nat)] akQ.o rfl rfl rfl aY (cz ⟨v0,v1,v2,v3⟩) ?_;intro wz il eT hsz;have lI:=aa il;have iP:=aa eT;clear il eT hsz));refine bodyPost_ret (results_cell_tmp zR _ iN (aI 129 lI.o _ cm rfl aY)) rfl ⟨⟨0,?_,?_⟩,br HBM.o iP.o AP⟩
    ·rw[uq.o];rfl
    rw[uq.o];simp
 have k8:((v4:Int) != (CR:Int))=true:=fH;have Dj:(v4 != CR)=true:=wR;refine wp_region_held_drew (S:=(fun _=>True)) aW oN (fun hHeld=>?_);refine QN 0 2 3 ?_;refine cD 1 fun K hK=>?_
 go_simp;refine(jQ p q L4 0 w8.drew (show lH w8.drew p q L4 0 from⟨abS.o.own.keep (ay (aq _ _)),abS.o.rest.keep (ay (aq _ _))⟩)).mono ?_;rintro e w9 ⟨rfl,kX,ht⟩;rw[qP (by rw[HL4.o];decide)];simp only;rw[HV4.o];have WV:aG (· =q) w8 w9:=⟨ht.os,ht.tape,ht.output,ht.size,ht.block⟩;have EJ:=aa WV;clear kX ht WV;go_wp2_with fail;refine bW hK oN fun uM=>?_
 clear hK K;refine cD 4 fun K hK=>?_
 go_simp;have hB9:Bs w9 (some ⟨g,off,none⟩) (b.take 28):=(akM.o.cG EJ.o fun g' o' e hlt hq=>by
  injection e with e;injection e with e
  have h1:g<w.heap.size:=Ua;have h2:=HQW.o;omega).take 28
 have h28:(b.take 28).length=28:=by rw[gW,HN.o];omega
 have hSM:=Cr.qy (b.take 28) (some ⟨g,off,none⟩) c w9 hB9 (aeg.o.cG EJ.o (fun e=>UX)) (by rw[h28];decide);rw[h28,HCR.o] at hSM;refine ah hSM ?_;clear hB9 h28 hSM;go_wp2_with fail;refine bW hK oN fun oX=>?_
 clear hK K;refine OC 5 6 7 8 9 10 ?_;refine bF ?_;have afE:q<pc:=by
  obtain⟨_,_,h1,_⟩:=abT.o.rest.ex;have h2:=h1.lt;have h3:=HHB.o;omega
 have hqr:r≠q:=fun e=>LU
 have XP:aD w9 r 129 #[.int .u64 0,.int .u64 0,.int .i64 0,.int .u32 0]:=EJ.o.arr akS.o hqr;have dE:aD w9 pc 129 #[.int .u64 (v0:Nat),.int .u64 (v1:Nat),.int .i64 (v2:Nat),.int .u32 (v3:Nat)]:=EJ.o.arr zg.o ag;have XL:Below w.heap.size w w9:=(ajY.o.trans EJ.o).fresh cx.o (fun k e=>by have:=HQW.o;omega);have ahg:=aa XP;have pn:=aa dE;have ag8:=aa XL;have k0:=dE.cl 0;have k1:=dE.cl 1;have k2:=dE.cl 2;have k3:=dE.cl 3;clear afE hqr XP dE XL;have HNO:=aa (show BF b=none from by rw[agX.o,if_neg (fun hh=>mA hh.1)]);exact adt
theorem Yw(b:By)(A:Option Addr)(c:Nat)(w:World)(hB:Bs w A b)(hl:b.length≤268435456)(hc:b.length≤c)(ht:cn w): Calls af 364 #[.slice A b.length c] w (YY b w):=by
 by_cases hs:b.length<32
 ·exact Kj b A c w hs
 obtain⟨g,off,rfl,_⟩:=hB (by intro e;rw[e] at hs;simp at hs);exact NC b g off c w ag hB hl hc ht
end En
end
section
namespace En
theorem O1(g:Rg): ∀ (ps:List Piece) (d:bG) (acc:By),(∀ x∈ps,x.f<x.t∧x.t≤d.dk.size)→(H7 g d ps acc).2.1.length≤acc.length+QO ps
 | [],d,acc,_=>aL _
 | x::ps,d,acc,h=>by
  rw[H7,QO];have hx:=h x (List.mem_cons_self ..);split
  ·have h1:=O1 g ps (d.read (g.from_+x.s:Nat)).2.2 (acc++((d.read (g.from_+x.s:Nat)).2.1.take x.t).drop x.f) (fun y hy=>by rw[bG.lK];exact h y (List.mem_cons_of_mem _ hy));have h2:(((d.read (g.from_+x.s:Nat)).2.1.take x.t).drop x.f).length≤x.t - x.f:=by rw[tB,gW];omega
   rw[List.length_append] at h1;omega
  exact Nat.zero_le _
theorem Rg.rT(g:Rg)(d:bG)(at_ n:Nat)(hs:1≤d.dk.size): (g.read d at_ n).2.1.length≤n:=by
 unfold Rg.read;split
 ·exact Nat.zero_le _
 have h1:=O1 g (pieces d.dk.size (n:Int).toNat (at_:Int).toNat (n:Int).toNat) d [] (fun x hx=>pG _ hs _ _ _ (aL _) x hx);rw[nC _ hs _ _ _ (aL _),Int.toNat_natCast] at h1;simpa using h1
def KA(S:Nat→Prop)(p:Nat)(R:Int × Hd × bG)(w:World)(e:Ending)(w':World): Prop:=e= .returned (.tuple #[.agg (od R.2.1),.int .i64 R.1])∧dI p R.2.2 S w'∧aG S w w'
theorem Kh{S:Nat→Prop}{w:World}{r p:Nat}{g:Rg}{d:bG}(h:fV w r p g d.dk.size)(hD:dI p d S w)(hr: ¬S r)(ht:cn w)(RI: ¬S 1):
  Calls af 334 #[.agg #[.pointer (some ⟨r,0,none⟩)]] w (KA S p (cX g d) w):=by
 obtain⟨bx,mg⟩:=ae w.heap.size;obtain⟨w0,hw0⟩:=ae (w.alloc (.cells #[.pointer (some ⟨r,0,none⟩)] 90));obtain⟨rr,vq⟩:=ae w0.heap.size;obtain⟨w1,aX⟩:=ae (w0.alloc (.cells #[.int .u64 0,.int .u64 0,.int .i64 0,.int .u32 0] 129));have hb0:=aJ hw0;have y9:=aJ aX;have hb1:Below w.heap.size w w1:=ar hb0 y9;have ha0:=aH hw0 mg;have ha1:=ha0.keep y9;have ha2:=aH aX vq;have hr1:bx+1=rr:=by rw[←vq,←hw0,←mg];simp only[World.alloc,Array.size_push]
 have x1:=ha1.cl 0;have hSl:=(aC p d).lt hD;have aiz: ¬S bx:=fun hs=>by have:=hSl _ hs;omega
 have aiw: ¬S rr:=fun hs=>by have:=hSl _ hs;omega
 obtain⟨er,oU⟩:=ae ((g.read d (0:Nat) d.dk.size).1);obtain⟨bs,tN⟩:=ae ((g.read d (0:Nat) d.dk.size).2.1);obtain⟨d1,Xx⟩:=ae ((g.read d (0:Nat) d.dk.size).2.2);have kX:g.read d ((0:Nat):Int) d.dk.size=(er,bs,d1):=by rw[←oU,←tN,←Xx]
 have hlen:bs.length≤d.dk.size:=by rw[←tN];exact g.rT d 0 d.dk.size hD.ok.size.1
 have aaR:cX g d=if er=0 then(0,(match BF bs with|some h=>if h.len≤g.bytes d.dk.size - d.dk.size then h else Hd.zero|none=>Hd.zero),d1)else(er,Hd.zero,d1):=by
  unfold cX;rw[show(g.read d 0 d.dk.size)=(er,bs,d1)from kX];try rfl
 obtain⟨R,hR⟩:=ae (cX g d);rw[hR] at aaR ⊢;have hsz:=hD.ok.size;have yO:=aa fun(W:World) (hW:Below w.heap.size w W)=>kJ (h.keep hW)
 have CQ:=aa fun(W:World) (hW:Below w.heap.size w W)=>Kq (h.keep hW) ((aC p d).ai hD hW) hr 0 d.dk.size aM ag
 rw[kX] at CQ;obtain⟨size,hsize⟩:=ae d.dk.size;have HH:=aa h;have HD:=aa hD;rw[hsize] at yO CQ hlen aaR hsz HH;have abV:=aa aaR;have uY:=aa hlen;have bu:=aa hb1;have dH:=aa ha1;have jI:=aa ha2;have Y9:=aa hw0;have sK:=aa aX;have yb:=aa mg;have EK:=aa hr1;have HNB:=aa aiz;have To:=aa aiw;have HT:=aa ht;have HTS:=aa RI;have oJ:=aa hr;have mi:=aa hsz;have pT:=aa hSl;clear hsize h hD hr ht RI hb0 y9 hb1 ha0 ha1 ha2 hr1 hSl aiz aiw oU tN Xx kX hlen aaR hR hsz hw0 aX vq mg;go_enter Tryz.func334,Tryz.ntmps334;go_wp2_with fail;rw[Y9.o,sK.o,yb.o,EK.o];refine sY (S:=(fun w'=>w'.cell? ⟨bx,0,none⟩=some (.pointer (some ⟨r,0,none⟩)))) (by exact x1) fun hHeld=>?_
 refine kW 0 1 2 3 ?_;refine cD 4 fun K hK=>?_
 go_simp;refine ah (yO.o w1.drew (ay bu.o)) ?_;go_wp2_with fail;refine bW hK (by exact x1) fun oX=>?_
 clear hK K;refine cD 5 fun K hK=>?_
 go_simp;refine(CQ.o w1.drew (ay bu.o)).mono ?_;rintro e w2 ⟨⟨A,c,rfl,hblk,hc⟩,Ng,ug⟩;have q1:w2.cell? ⟨bx,0,none⟩=some (.pointer (some ⟨r,0,none⟩)):=(World.cell?_of_block (a:=⟨bx,0,none⟩) (ug.block bx dH.o.lt HNB.o)).trans x1;have eX:=aa hblk;have HC:=aa hc;have om:=aa Ng;have gV:=aa (show aG S w w2 from(aG.aU bu.o).trans ⟨ug.os,ug.tape,ug.output,ug.size,ug.block⟩);have akU:=aa (show aD w2 rr 129 #[.int .u64 0,.int .u64 0,.int .i64 0,.int .u32 0] from(ug.block rr jI.o.lt To.o).trans jI.o);clear hblk hc Ng ug;go_wp2_with fail;refine bW hK (by exact q1) fun jA=>?_
 clear hK K;refine kW 6 7 8 9 ?_;refine ty 10 ?_;refine bF ?_;by_cases h0:er=0
 ·subst h0;have Cn:=aa (show R=(0,(match BF bs with|some h=>if h.len≤g.bytes size - size then h else Hd.zero|none=>Hd.zero),d1)from by rw[abV.o,if_pos rfl]);have HSR:=aa (Yw bs A c w2 (fun hn=>by obtain⟨g',rfl,_,hb⟩:=eX.o hn;exact hb.bs hn) (by have h1:=uY.o;have h2:=mi.o;omega) HC.o (HT.o.cG gV.o HTS.o));clear abV;go_wp2_with fail;refine HSR.o.mono ?_;rintro e w3 ⟨⟨er2,rfl,aiL⟩,hb3⟩;obtain⟨hh,hhh⟩:=ae ((BF bs).getD Hd.zero);rw[hhh];have s1:w3.cell? ⟨bx,0,none⟩=some (.pointer (some ⟨r,0,none⟩)):=(hb3.cell (p:=⟨bx,0,none⟩) (bz _ _ q1)).trans q1;have HHH:=aa hhh;have akp:=aa aiL;have ek:=aa hb3;have pq:=akU.jS hb3;have po:=aa (aD.fresh w3 129 #[.int .u64 0,.int .u64 0,.int .i64 0,.int .u32 0]);clear hhh aiL hb3 HSR;go_wp2_with (first|(refine aj rfl 129 _ _ rfl w3.heap.size 129 _ (od hh) po.o rfl rfl rfl aY (cz hh) ?_;intro w5 fY cJ hs5;have o6:=aa fY;have jk:=aa cJ;clear fY cJ hs5));obtain⟨hk,hhk⟩:=ae w3.heap.size;have aa6:Below w3.heap.size w3 w5:=br (aw (aq _ _) _) jk.o (aL _);have fY:aD w5 hk 129 (od hh):=by rw[←hhk];exact o6.o
  rw[hhk];have t1:w5.cell? ⟨bx,0,none⟩=some (.pointer (some ⟨r,0,none⟩)):=(aa6.cell (p:=⟨bx,0,none⟩) (bz _ _ s1)).trans s1;have k0:w5.cell? ⟨hk,0,none⟩=some (.int .u64 (hh.gen:Nat)):=fY.cell 0;have k1:w5.cell? ⟨hk,1,none⟩=some (.int .u64 (hh.lZ:Nat)):=fY.cell 1;have k2:w5.cell? ⟨hk,2,none⟩=some (.int .i64 (hh.len:Nat)):=fY.cell 2;have k3:w5.cell? ⟨hk,3,none⟩=some (.int .u32 (hh.sum:Nat)):=fY.cell 3;have ahj:=pq.jS aa6;have SP:=aa (show Below w2.heap.size w2 w5 from ar ek.o aa6);clear aa6 fY o6 jk po hhk;by_cases hz:er2=0
  ·subst hz;obtain⟨h',hh'⟩: ∃ h',BF bs=some h':=Option.isSome_iff_exists.1 (akp.o.1 rfl);have hhe:hh=h':=by rw[←HHH.o,hh'];rfl
   have hby:=HH.o.e8;have tP:=aa fun(W:World) (hW:aG S w W)=>ny (HH.o.cG hW oJ.o)
   have HRZ:=aa fun(W:World) (hW:aG S w W)=>kJ (HH.o.cG hW oJ.o)
   obtain⟨B,hB⟩:=ae (g.bytes size);have hBs:size≤B:=by rw[←hB];unfold Rg.bytes;exact Nat.le_mul_of_pos_left _ HH.o.count.1
   obtain⟨m,hm⟩:=ae (B - size);have hbm:(B:Int) - (size:Int)=(m:Int):=ag;have xM:(m:Int)≤268435456:=ag;have hwm:IntKind.i64.wrap ((m:Nat):Int)=((m:Nat):Int):=IntWalk.i64_in _ ag;rw[hB] at tP;have KG:=aa (show R=(0,(if hh.len≤m then hh else Hd.zero),d1)from by rw[Cn.o,hh',hB,hm,hhe]);clear hh' hhe hby hB hBs hm Cn;obtain⟨ln,hln⟩:=ae hh.len;rw[hln] at k2 KG;have HLN:=aa hln;clear hln;by_cases hle:ln≤m
   ·have hlm: ¬(m:Int)<(ln:Int):=by omega
    have Cn:=aa (show R=(0,hh,d1)from by rw[KG.o,if_pos hle]);clear KG hle;refine wp_region_held_drew (S:=(fun w'=>w'.cell? ⟨bx,0,none⟩=some (.pointer (some ⟨r,0,none⟩))∧w'.cell? ⟨hk,2,none⟩=some (.int .i64 (ln:Nat)))) aW (by exact⟨t1,k2⟩) (fun hHeld=>?_);refine nZ 0 1 2 3 4 5 6 8 ?_;refine ty 9 ?_;refine cD 7 fun K hK=>?_
    go_simp;refine(tP.o w5.drew ((gV.o.ai SP.o).ai (ay (aq _ _)))).mono ?_;rintro e w6 ⟨rfl,kB⟩;have sr:Below w5.heap.size w5 w6:=ar (ay (aq _ _)) kB;have u1:w6.cell? ⟨bx,0,none⟩=some (.pointer (some ⟨r,0,none⟩)):=(sr.cell (p:=⟨bx,0,none⟩) (bz _ _ t1)).trans t1;have u2:w6.cell? ⟨hk,2,none⟩=some (.int .i64 (ln:Nat)):=(sr.cell (p:=⟨hk,2,none⟩) (bz _ _ k2)).trans k2;have u0:w6.cell? ⟨hk,0,none⟩=some (.int .u64 (hh.gen:Nat)):=(sr.cell (p:=⟨hk,0,none⟩) (bz _ _ k0)).trans k0;have u4:w6.cell? ⟨hk,1,none⟩=some (.int .u64 (hh.lZ:Nat)):=(sr.cell (p:=⟨hk,1,none⟩) (bz _ _ k1)).trans k1;have u3:w6.cell? ⟨hk,3,none⟩=some (.int .u32 (hh.sum:Nat)):=(sr.cell (p:=⟨hk,3,none⟩) (bz _ _ k3)).trans k3;have wA:=ahj.jS sr;have N0:=aa (show Below w2.heap.size w2 w6 from ar SP.o sr);clear kB sr;go_wp2_with fail;refine bW hK E6 fun nK=>?_
    clear hK K;refine cD 10 fun K hK=>?_
    go_simp;refine ah (HRZ.o w6 (gV.o.ai N0.o)) ?_;go_wp2_with fail;refine bW hK E6 fun PG=>?_
    clear hK K;refine QN 11 12 13 ?_;refine bF ?_;go_wp2_with (first|(refine aj rfl 129 _ _ rfl rr 129 _ #[.int .u64 (hh.gen:Nat),.int .u64 (hh.lZ:Nat),.int .i64 (ln:Nat),.int .u32 (hh.sum:Nat)] wA.o rfl rfl rfl aY tZ ?_;intro wz il eT hsz;have lI:=aa il;have iP:=aa eT;clear il eT hsz));refine bodyPost_ret (results_cell_tmp zQ _ iN (aI 129 lI.o _ cm rfl aY)) rfl ?_;unfold KA;rw[Cn.o];have hrw:w.heap.size≤rr:=Fz;have hD9:=(aC p d1).ai om.o N0.o;have eT:Hi w6 wz (some rr):=⟨iP.o.os,iP.o.tape,iP.o.output,iP.o.size,iP.o.block⟩;refine⟨by rw[←HLN.o];rfl,(aC p d1).same hD9 eT.size (fun k hk=>eT.block k ((aC p d1).lt hD9 k hk) (fun e=>Ao)),(gV.o.ai N0.o).grown eT (fun k e=>FE)⟩
   have hlm:(m:Int)<(ln:Int):=ag;have Cn:=aa (show R=(0,Hd.zero,d1)from by rw[KG.o,if_neg hle]);clear KG hle;refine wp_region_held_drew (S:=(fun w'=>w'.cell? ⟨bx,0,none⟩=some (.pointer (some ⟨r,0,none⟩))∧w'.cell? ⟨hk,2,none⟩=some (.int .i64 (ln:Nat)))) aW (by exact⟨t1,k2⟩) (fun hHeld=>?_);refine nZ 0 1 2 3 4 5 6 8 ?_;refine ty 9 ?_;refine cD 7 fun K hK=>?_
   go_simp;refine(tP.o w5.drew ((gV.o.ai SP.o).ai (ay (aq _ _)))).mono ?_;rintro e w6 ⟨rfl,kB⟩;have sr:Below w5.heap.size w5 w6:=ar (ay (aq _ _)) kB;have u1:w6.cell? ⟨bx,0,none⟩=some (.pointer (some ⟨r,0,none⟩)):=(sr.cell (p:=⟨bx,0,none⟩) (bz _ _ t1)).trans t1;have u2:w6.cell? ⟨hk,2,none⟩=some (.int .i64 (ln:Nat)):=(sr.cell (p:=⟨hk,2,none⟩) (bz _ _ k2)).trans k2;have u0:w6.cell? ⟨hk,0,none⟩=some (.int .u64 (hh.gen:Nat)):=(sr.cell (p:=⟨hk,0,none⟩) (bz _ _ k0)).trans k0;have u4:w6.cell? ⟨hk,1,none⟩=some (.int .u64 (hh.lZ:Nat)):=(sr.cell (p:=⟨hk,1,none⟩) (bz _ _ k1)).trans k1;have u3:w6.cell? ⟨hk,3,none⟩=some (.int .u32 (hh.sum:Nat)):=(sr.cell (p:=⟨hk,3,none⟩) (bz _ _ k3)).trans k3;have wA:=ahj.jS sr;have N0:=aa (show Below w2.heap.size w2 w6 from ar SP.o sr);clear kB sr;go_wp2_with fail;refine bW hK E6 fun nK=>?_
   clear hK K;refine cD 10 fun K hK=>?_
   go_simp;refine ah (HRZ.o w6 (gV.o.ai N0.o)) ?_;go_wp2_with fail;refine bW hK E6 fun PG=>?_
   clear hK K;refine QN 11 12 13 ?_;refine bF ?_;go_wp2_with (first|(refine aj rfl 129 _ _ rfl rr 129 _ #[.int .u64 0,.int .u64 0,.int .i64 0,.int .u32 0] wA.o rfl rfl rfl aY (cz Hd.zero) ?_;intro wz il eT hsz;have lI:=aa il;have iP:=aa eT;clear il eT hsz));refine bodyPost_ret (results_cell_tmp zQ _ iN (aI 129 lI.o _ cm rfl aY)) rfl ?_;unfold KA;rw[Cn.o];have hrw:w.heap.size≤rr:=Fz;have hD9:=(aC p d1).ai om.o N0.o;have eT:Hi w6 wz (some rr):=⟨iP.o.os,iP.o.tape,iP.o.output,iP.o.size,iP.o.block⟩;refine⟨rfl,(aC p d1).same hD9 eT.size (fun k hk=>eT.block k ((aC p d1).lt hD9 k hk) (fun e=>Ao)),(gV.o.ai N0.o).grown eT (fun k e=>FE)⟩
  have pN:(er2 != 0)=true:=by simp[hz]
  have hn:BF bs=none:=by
   have h1:=akp.o;cases hc:BF bs with
   | none=>rfl
   | some x=>rw[hc] at h1;exact absurd (h1.2 rfl) hz
  have KG:=Cn;have Cn:=aa (show R=(0,Hd.zero,d1)from by rw[KG.o,hn]);clear KG hz hn;refine wp_region_held_drew (S:=(fun _=>True)) aW oN (fun hHeld=>?_);refine nZ 0 1 2 3 4 5 6 7 ?_;refine OC 8 9 10 11 12 13 ?_;refine bF ?_;go_wp2_with (first|(refine aj rfl 129 _ _ rfl rr 129 _ #[.int .u64 0,.int .u64 0,.int .i64 0,.int .u32 0] ahj.o rfl rfl rfl aY (cz Hd.zero) ?_;intro wz il eT hsz;have lI:=aa il;have iP:=aa eT;clear il eT hsz));refine bodyPost_ret (results_cell_tmp zQ _ iN (aI 129 lI.o _ cm rfl aY)) rfl ?_;unfold KA;rw[Cn.o];have hrw:w.heap.size≤rr:=Fz;have hD9:=(aC p d1).ai om.o SP.o;have eT:Hi w5 wz (some rr):=⟨iP.o.os,iP.o.tape,iP.o.output,iP.o.size,iP.o.block⟩;refine⟨rfl,(aC p d1).same hD9 eT.size (fun k hk=>eT.block k ((aC p d1).lt hD9 k hk) (fun e=>Ao)),(gV.o.ai SP.o).grown eT (fun k e=>FE)⟩
 ·have hq:(er==0)=false:=by simp[h0]
  have Cn:=aa (show R=(er,Hd.zero,d1)from by rw[abV.o,if_neg h0]);clear abV h0;go_wp2_with (first|(refine aj rfl 129 _ _ rfl rr 129 _ #[.int .u64 0,.int .u64 0,.int .i64 0,.int .u32 0] akU.o rfl rfl rfl aY (cz Hd.zero) ?_;intro wz il eT hsz;have lI:=aa il;have iP:=aa eT;clear il eT hsz));refine bodyPost_ret (results_cell_tmp zQ _ iN (aI 129 lI.o _ cm rfl aY)) rfl ?_;unfold KA;rw[Cn.o];have hrw:w.heap.size≤rr:=Fz;refine⟨rfl,(aC p d1).same om.o iP.o.size (fun k hk=>iP.o.block k ((aC p d1).lt om.o k hk) (fun e=>Ao)),gV.o.grown iP.o (fun k e=>FE)⟩
