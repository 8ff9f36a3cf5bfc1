import Derived.Test.YtemighjbfanenaaGreatDoorQk21
import Derived.Lib.SlBytesConst
set_option linter.all false
set_option maxRecDepth 100000
set_option maxHeartbeats 16000000
namespace Go.Proofs.YtemighjbfanenaaGreatDoor
open RowKit
open Oc (ib Bs gl yM ik gD JS jV oM Xn ed df lV zB eO eF fG aO dX bu bO le qV eT cM mW tk qT e8 val)
open Cr (cj ij)
open Go.Proofs.Tryz renaming results364→zN,prog→af,underlying129→cq,results334→zM
open Go.World renaming block_lt_of_cell?→bE,grownBy→GM
open List renaming take→GN,length_take→gT,length_drop→lY
open Nat renaming pow_le_pow_right→Cp,lt_of_lt_of_le→aU,le_refl→aY,le_trans→aV,min_le_left→PK
open RowKit.Below renaming refl→ar
theorem acx{p:Prop}(h:p:=by
 go_wp2_with (first|(refine aj rfl 129 _ _ rfl r 129 _ #[.int .u64 0,.int .u64 0,.int .i64 0,.int .u32 0] af0.o rfl rfl rfl bc (cE Hd.zero) ?_;intro wz gK eM hsz;have kY:=aa gK;have iF:=aa eM;clear gK eM hsz));refine bodyPost_ret (results_cell_tmp zN _ iI (aL 129 kY.o _ cq rfl bc)) rfl ⟨⟨81,?_,?_⟩,br afR.o iF.o AI⟩
 ·rw[HNO.o];rfl
 rw[HNO.o];simp):p:=h
theorem SY{p:Prop}(h:p:=by obtain⟨g',o',e',h1,_⟩:=HB.o (by intro e;have:=HN.o;rw[e] at this;simp at this;omega);injection e' with e';injection e' with e';omega):p:=h
theorem NJ{p:Prop}(h:p:=by rw[←hv];exact aU (Oc.zZ _) (Cp (by decide) (by rw[gT];exact PK _ _))):p:=h
theorem Ah{p:Prop}(h:p:=by injection e with e;subst e;exact R8.o hk):p:=h
theorem E7{p:Prop}(h:p:=by injection e with e;subst e;exact .inr hrw):p:=h
theorem TM{p:Prop}(h:p:=by have h1:=bE w _ (HT.o 0 (by decide));have h2:=HQW.o;simp only at h1;omega):p:=h
theorem AI{p:Prop}(h:p:=by have:=uj.o;omega):p:=h
theorem ajT{p:Prop}(h:p:=by intro e;have:=HN.o;rw[e] at this;simp at this;omega):p:=h
theorem E3{p:Prop}(h:p:=by have:=i'.o;have:=J6.o.size;omega):p:=h
theorem EZ{p:Prop}(h:p:=by have h1:=yf.o;have h2:=wI.o;omega):p:=h
theorem TB{p:Prop}(h:p:=by have h1:=bE w _ (HT.o 0 (by decide));simp only at h1;omega):p:=h
theorem ajQ{p:Prop}(h:p:=by rw[gT];exact PK _ _):p:=h
theorem Lf{p:Prop}(h:p:=by have h1:=HQ.o;have h2:=HRL.o;omega):p:=h
theorem wS{p:Prop}(h:p:=by simp[mG]):p:=h
theorem EA{p:Prop}(h:p:=by exact⟨u1,u2⟩):p:=h
section
namespace En
theorem uJ(h:Hd): (uK h).length=28:=by simp[uK,uL,Oc.bG]
theorem mX(h:Hd): (Hc h).length=32:=by simp[Hc,uJ,Oc.bG]
structure Hd.Fit(h:Hd): Prop where
 gen:h.gen<18446744073709551616
 mh:h.mh<18446744073709551616
 len:h.len≤67108864
 sum:h.sum<4294967296
def ac8(h:Hd)(w:World)(e:Ending)(w':World): Prop:=
 ∃ A c,e= .returned (.tuple #[.slice A 32 c,.int .i64 0])∧Bs w' A (Hc h)∧Below w.heap.size w w'∧32≤c∧(∀ g off,A=some ⟨g,off,none⟩→w.heap.size≤g)
theorem MI(h:Hd)(w:World)(hm:h.may=true)(hf:h.Fit)(ht:cj w): Calls af 301 #[.agg (n9 h)] w (ac8 h w):=by
 have KC:=aa fun W=>F2 h W
 rw[hm] at KC;unfold n9 at KC ⊢;obtain⟨gen,mh,len,sum⟩:=h;simp only at KC ⊢;have HF:=aa hf;have HT:=aa ht;clear hf ht hm;have hln:(0:Int)≤(len:Int):=ai;have hl4:(len:Int)≤67108864:=by have:=HF.o.len;simp only at this;omega
 have alZ:IntKind.u32.wrap ((len:Nat):Int)=((len:Nat):Int):=IntWalk.u32_in _ ai;go_enter Tryz.func301,Tryz.ntmps301;go_wp2_with fail;obtain⟨b,hb⟩:=ae w.heap.size;obtain⟨w0,hw0⟩:=ae (w.alloc (.cells #[.int .u64 (gen:Nat),.int .u64 (mh:Nat),.int .i64 (len:Nat),.int .u32 (sum:Nat)] 129));have hb0:=aK hw0;have ha0:=aJ hw0 hb;rw[hw0,hb];have HB:=aa hb;have Pq:=aa hb0;have HA0:=aa ha0;clear hw0 hb hb0 ha0;refine(KC.o w0).mono ?_;rintro e wa ⟨rfl,He⟩;have hab:aG wa b 129 #[.int .u64 (gen:Nat),.int .u64 (mh:Nat),.int .i64 (len:Nat),.int .u32 (sum:Nat)]:=HA0.o.ah He;have RE:=aa (show Below w.heap.size w wa from av Pq.o He);have HAB:=aa hab;clear He hab;have hcv:(convert 34 34 (.slice (some ⟨wa.heap.size+1,0,none⟩) 4 4)).run af ((wa.alloc (.cells #[.slice none 0 0] 150)).alloc (.cells #[.int .u8 71,.int .u8 65,.int .u8 78,.int .u8 71] 5))= .ok (.slice (some ⟨wa.heap.size+1,0,none⟩) 4 4) ((wa.alloc (.cells #[.slice none 0 0] 150)).alloc (.cells #[.int .u8 71,.int .u8 65,.int .u8 78,.int .u8 71] 5 (4,5))):=by
  have:=Go.Lib.run_convert_bytes_const (P:=af) (wa.alloc (.cells #[.slice none 0 0] 150)) 34 5 #[.int .u8 71,.int .u8 65,.int .u8 78,.int .u8 71] 4 4 Tryz.underlying34 Tryz.underlying5;rw[World.size_alloc] at this;exact this
 go_wp2_with fail;obtain⟨p,hp⟩:=ae wa.heap.size;have hp1:b+1≤p:=by rw[←hp];exact aU HAB.o.lt (aY _)
 obtain⟨w1,a8⟩:=ae (((wa.alloc (.cells #[.slice none 0 0] 150)).alloc (.cells #[.int .u8 71,.int .u8 65,.int .u8 78,.int .u8 71] 5 (4,5))));have Z2:eF w1 p []:=by rw[←a8,←hp];exact(Oc.eF.fresh wa).ah (ay (ar _ _) _)
 have hb1:Below wa.heap.size wa w1:=by rw[←a8];exact ay (ay (ar _ _) _) _
 have ha1:aG w1 b 129 #[.int .u64 (gen:Nat),.int .u64 (mh:Nat),.int .i64 (len:Nat),.int .u32 (sum:Nat)]:=HAB.o.ah hb1;have kB:w1.heap[p+1]? =some (.cells #[.int .u8 71,.int .u8 65,.int .u8 78,.int .u8 71] 5 (4,5)):=by
  have hsz:(wa.alloc (.cells #[.slice none 0 0] 150)).heap.size=wa.heap.size+1:=World.size_alloc _ _;rw[←a8,←hp,←hsz];show((wa.alloc (.cells #[.slice none 0 0] 150)).heap.push _)[(wa.alloc (.cells #[.slice none 0 0] 150)).heap.size]? =_
  exact Array.getElem?_push_size
 have hgB:Bs w1 (some ⟨p+1,0,none⟩) uL:=fun _=>⟨p+1,0,rfl,(Array.getElem?_eq_some_iff.1 kB).1,fun i u hu=>by
  rw[Nat.zero_add,show w1.cell? ⟨p+1,i,none⟩=(#[Value.int .u8 71,.int .u8 65,.int .u8 78,.int .u8 71]:Array Value)[i]? from by simp[World.cell?,kB],←hu,←Array.getElem?_toList];rfl⟩
 rw[hp];rw[a8];have x0:=ha1.cl 0;have x1:=ha1.cl 1;have x2:=ha1.cl 2;have x3:=ha1.cl 3;have i':=aa ha1.lt;have HP:=aa hp1;have HPE:=aa hp;have Sd:=aa hgB;have XY:=aa Z2;have bA:=aa (show Below w.heap.size w w1 from av RE.o hb1);clear Z2 hb1 ha1 kB hgB a8 hp1 hp;refine(Oc.zB p [] uL ⟨p+1,0,none⟩ 4 w1 XY.o Sd.o aM aM).mono ?_;rintro en w2 ⟨⟨u,rfl⟩,I3,rf⟩;have Hs:w2.cell? ⟨b,0,none⟩=some (.int .u64 (gen:Nat)):=(rf.cells rQ hZ 0).trans x0;have Hq:w2.cell? ⟨b,1,none⟩=some (.int .u64 (mh:Nat)):=(rf.cells rQ hZ 1).trans x1;have Hn:w2.cell? ⟨b,2,none⟩=some (.int .i64 (len:Nat)):=(rf.cells rQ hZ 2).trans x2;have abz:w2.cell? ⟨b,3,none⟩=some (.int .u32 (sum:Nat)):=(rf.cells rQ hZ 3).trans x3;have Pd:=aa (rf);have XX:=aa I3;clear I3 rf x0 x1 x2 x3;go_wp2_with fail;refine(Oc.ed p gen _ w2 XX.o (by simp[uL]) HF.o.gen).mono ?_;rintro en w3 ⟨⟨u,rfl⟩,I2,qZ⟩;have Hr:w3.cell? ⟨b,0,none⟩=some (.int .u64 (gen:Nat)):=(qZ.cells Af hZ 0).trans Hs;have Ho:w3.cell? ⟨b,1,none⟩=some (.int .u64 (mh:Nat)):=(qZ.cells Af hZ 1).trans Hq;have Hm:w3.cell? ⟨b,2,none⟩=some (.int .i64 (len:Nat)):=(qZ.cells Af hZ 2).trans Hn;have aby:w3.cell? ⟨b,3,none⟩=some (.int .u32 (sum:Nat)):=(qZ.cells Af hZ 3).trans abz;have Pc:=aa (Pd.o.trans qZ);have XW:=aa I2;clear I2 qZ Hs Hq Hn abz;go_wp2_with fail;refine(Oc.ed p mh _ w3 XW.o (by simp[uL,Oc.bG]) HF.o.mh).mono ?_;rintro en w4 ⟨⟨u,rfl⟩,I1,qY⟩;have Sp:w4.cell? ⟨b,0,none⟩=some (.int .u64 (gen:Nat)):=(qY.cells Ae hZ 0).trans Hr;have Sn:w4.cell? ⟨b,1,none⟩=some (.int .u64 (mh:Nat)):=(qY.cells Ae hZ 1).trans Ho;have Sm:w4.cell? ⟨b,2,none⟩=some (.int .i64 (len:Nat)):=(qY.cells Ae hZ 2).trans Hm;have abx:w4.cell? ⟨b,3,none⟩=some (.int .u32 (sum:Nat)):=(qY.cells Ae hZ 3).trans aby;have J6:=aa (Pc.o.trans qY);have XV:=aa I1;clear I1 qY Hr Ho Hm aby;go_wp2_with fail;refine(Oc.df p len _ w4 XV.o (by simp[uL,Oc.bG]) (by have:=HF.o.len;simp only at this;omega)).mono ?_;rintro en w5 ⟨⟨u,rfl⟩,I0,vP⟩;have alK:w5.cell? ⟨b,0,none⟩=some (.int .u64 (gen:Nat)):=(vP.cells E3 hZ 0).trans Sp;have alJ:w5.cell? ⟨b,1,none⟩=some (.int .u64 (mh:Nat)):=(vP.cells E3 hZ 1).trans Sn;have alI:w5.cell? ⟨b,2,none⟩=some (.int .i64 (len:Nat)):=(vP.cells E3 hZ 2).trans Sm;have alH:w5.cell? ⟨b,3,none⟩=some (.int .u32 (sum:Nat)):=(vP.cells E3 hZ 3).trans abx;have Pb:=aa (J6.o.trans vP);have XU:=aa I0;clear I0 vP Sp Sn Sm abx;go_wp2_with fail;refine(Oc.df p sum _ w5 XU.o (by simp[uL,Oc.bG]) HF.o.sum).mono ?_;rintro en w6 ⟨⟨u,rfl⟩,IZ,I5⟩;have J5:=aa (Pb.o.trans I5);have XS:=aa IZ;clear IZ I5;go_wp2_with fail;have og:eF w6 p (uK ⟨gen,mh,len,sum⟩):=by have:=XS.o;exact this
 have hh:=uJ ⟨gen,mh,len,sum⟩;have hpn:w.heap.size≤p:=by have h1:=HB.o;have h2:=HP.o;omega
 have ht6:cj w6:=(HT.o.ah bA.o).cR J5.o (fun e=>TB);refine(Oc.lV p _ w6 og ai).mono ?_;rintro en w6b ⟨A6,c6,rfl,yG,_,_,_,mZ⟩;have tx:=aa (Oc.gl.bs (w:=w6) yG);have HW6:=aa (og.ah mZ);have vn:=aa (ht6.ah mZ);have iL:=aa mZ;have HPN:=aa hpn;clear og ht6 yG mZ hpn;go_wp2_with fail;refine ag (Cr.qB _ A6 c6 w6b tx.o vn.o (by rw[hh];decide)) ?_;clear hh;go_wp2_with fail;have Y1:(uK ⟨gen,mh,len,sum⟩).length≤67108900:=by rw[uJ];decide
 refine(df p _ _ w6b HW6.o Y1 (Cr.Mu 0 _ aM)).mono ?_;rintro en w7 ⟨⟨u7,rfl⟩,wE,ht7⟩;have agN:eF w7 p (Hc ⟨gen,mh,len,sum⟩):=wE;have O':=aa agN;have HT7:=aa ht7;clear wE ht7 agN Y1;go_wp2_with fail;refine(Oc.lV p _ w7 O'.o (by rw[mX];decide)).mono ?_;rintro en w8 ⟨A8,c8,rfl,OS,hc8,hf8,_,mY⟩;have h1:aI (· =p) w1 w8:=(((J5.o.ak iL.o).trans HT7.o).ak mY);have wG:Below w.heap.size w w8:=h1.fresh bA.o (fun k e=>by have:=HPN.o;omega);have hlen:=mX ⟨gen,mh,len,sum⟩;have Gb:=aa (show ac8 ⟨gen,mh,len,sum⟩ w (.returned (.tuple #[.slice A8 32 c8,.int .i64 0])) w8 from⟨A8,c8,rfl,Oc.gl.bs (w:=w7) OS,wG,by rw[hlen] at hc8;exact hc8,fun g off e=>aV (aV (aV bA.o.size J5.o.size) (aV iL.o.size HT7.o.size)) (hf8 g off e).1⟩);rw[hlen];clear h1 wG hlen OS hc8 hf8 mY;go_wp2_with fail;go_ret2;exact Gb.o
end En
end
section
namespace En
theorem bc: (af.info? 129).map (·.size)=some 4:=bh
def XO(b:By)(w:World)(e:Ending)(w':World): Prop:=
 (∃ er:Int,e= .returned (.tuple #[.agg (n9 ((Br b).getD Hd.zero)),.int .i64 er])∧(er=0↔(Br b).isSome=true))∧Below w.heap.size w w'
theorem cE(h:Hd): (n9 h).all (·.oneCell')=true:=by simp[n9,Value.oneCell']
theorem JO(b:By)(A:Option Addr)(c:Nat)(w:World)(hs:b.length<32): Calls af 364 #[.slice A b.length c] w (XO b w):=by
 have hr:Br b=none:=by unfold Br;rw[if_pos hs]
 have hs':(b.length:Int)<32:=ai;obtain⟨n,hn⟩:=ae b.length;rw[hn] at hs hs' ⊢;have HR:=aa hr;clear hr hn;obtain⟨w1,a8⟩:=ae (w.alloc (.cells #[.int .u64 0,.int .u64 0,.int .i64 0,.int .u32 0] 129));obtain⟨r,vh⟩:=ae w.heap.size;have hb1:=aK a8;have ha1:=aJ a8 vh;have sK:=aa a8;have uj:=aa vh;have bA:=aa hb1;have dF:=aa ha1;clear hb1 ha1;go_enter Tryz.func364,Tryz.ntmps364;go_wp2_with (first|(refine aj rfl 129 _ _ rfl r 129 _ #[.int .u64 0,.int .u64 0,.int .i64 0,.int .u32 0] dF.o rfl rfl rfl bc (cE Hd.zero) ?_;intro w3 dE hg3 hs3;have pC:=aa dE;have zF:=aa hg3;clear dE hg3 hs3));refine bodyPost_ret (results_cell_tmp zN _ iI (aL 129 pC.o _ cq rfl bc)) rfl ⟨⟨4,?_,?_⟩,br bA.o zF.o AI⟩
 ·rw[HR.o];rfl
 rw[HR.o];simp
theorem aeP(b:By)(h:32≤b.length): Br b=if val (((((((b.take 32).drop 4).drop 8).drop 8).drop 4).drop 4).take 4)=ij 0 (b.take 28)∧(b.take 32).take 4=uL then
  (if Hd.may ⟨val (((b.take 32).drop 4).take 8),val ((((b.take 32).drop 4).drop 8).take 8),val (((((b.take 32).drop 4).drop 8).drop 8).take 4),val ((((((b.take 32).drop 4).drop 8).drop 8).drop 4).take 4)⟩=true then
   some ⟨val (((b.take 32).drop 4).take 8),val ((((b.take 32).drop 4).drop 8).take 8),val (((((b.take 32).drop 4).drop 8).drop 8).take 4),val ((((((b.take 32).drop 4).drop 8).drop 8).drop 4).take 4)⟩else none)else none:=by
 unfold Br;rw[if_neg ai];simp[aeQ,List.drop_take,List.take_take,List.drop_drop];by_cases hh:val (GN 4 (List.drop 28 b))=ij 0 (GN 28 b)∧GN 4 b=uL
 ·rw[if_pos hh,if_pos hh];first|rfl|congr
 ·rw[if_neg hh,if_neg hh]
theorem WQ{W:World}{g c:Nat}{bs:By}(h:jO W 5 g bs): (convert 34 9 (.slice (some ⟨g,0,none⟩) bs.length c)).run af W= .ok (.string ⟨bs.toArray⟩) W:=
 run_convert_bytes_back (P:=af) W 34 9 5 ⟨g,0,none⟩ c bs Tryz.underlying34 Tryz.underlying5 Tryz.underlying9 (by
  intro j hj;rw[qA];exact h.cell hj)
theorem MG(b:By)(g off c:Nat)(w:World)(hs:32≤b.length)(hB:Bs w (some ⟨g,off,none⟩) b)(hl:b.length≤268435456)(hc:b.length≤c)(ht:cj w): Calls af 364 #[.slice (some ⟨g,off,none⟩) b.length c] w (XO b w):=by
 have hs': ¬(b.length:Int)<32:=ai;have aka:(32:Int)≤(b.length:Int):=ai;have hc':(b.length:Int)≤(c:Int):=ai;have amu:(32:Int)≤(c:Int):=ai;have amv:(28:Int)≤(c:Int):=ai;have akj:(28:Int)≤(b.length:Int):=ai;obtain⟨n,hn⟩:=ae b.length;have Hh:(b.take 32).length=32:=EC;have HB:=aa hB;have HT:=aa ht;have HN:=aa hn;have Sj:=aa Hh;rw[hn] at hs hs' aka hc hc' hl akj ⊢;clear hB ht hn Hh;obtain⟨w1,a8⟩:=ae (w.alloc (.cells #[.int .u64 0,.int .u64 0,.int .i64 0,.int .u32 0] 129));obtain⟨r,vh⟩:=ae w.heap.size;have hb1:=aK a8;have ha1:=aJ a8 vh;have Cc:=yM (b.take 32) (some ⟨g,off,none⟩) c w1 ((HB.o.take 32).ah hb1) (cM _ _) (by rw[Sj.o];decide);rw[Sj.o] at Cc;have Cc:=aa Cc;have sK:=aa a8;have uj:=aa vh;have bA:=aa hb1;have dF:=aa ha1;clear hb1 ha1;go_enter Tryz.func364,Tryz.ntmps364;go_wp2_with fail;refine Cc.o.mono ?_;rintro e w2 ⟨p,q,rfl,fE,hpw,hqw,hb2⟩;have Mi:Below w.heap.size w w2:=av bA.o hb2;have jB:=dF.jC hb2;have cu:=aa Mi;have HP:=aa hpw;have HQ:=aa hqw;have mj:=aa fE;have HRL:=aa dF.o.lt;clear fE hpw hqw hb2 Mi Cc;go_wp2_with fail;refine(JS p q 4 (b.take 32) 0 w2 mj.o aM).mono ?_;rintro e w3 ⟨A3,c3,rfl,cL,Kr,fE,Cw⟩;rw[qT (by rw[Sj.o];decide)] at cL fE;simp only at cL fE;have h4:((b.take 32).take 4).length=4:=by rw[gT,Sj.o];decide
 obtain⟨g3,rfl,hg3,Wu⟩:=cL (by intro e;rw[e] at h4;simp at h4);have hcv:=WQ (c:=c3) Wu;rw[h4] at hcv;rw[qT (by rw[Sj.o];decide)];simp only;rw[h4];obtain⟨g4,hg4⟩:=ae ((b.take 32).take 4);rw[hg4] at hcv;have uV:=aa hg4;have aiW:=aa fE;have iJ:=aa Cw;have hL0:((b.take 32).drop 4).length=28:=by rw[lY,Sj.o]
 obtain⟨L0,ae2⟩:=ae ((b.take 32).drop 4);rw[ae2] at aiW hL0;have HL0:=aa hL0;have HE0:=aa ae2;obtain⟨isg,aae⟩:=ae ((g4== [71,65,78,71]));have HIS:=aa aae;clear cL Kr fE Cw h4 Wu hg3 hg4 mj hL0 ae2;go_wp2_with fail;refine(ik p q L0 0 w3 aiW.o).mono ?_;rintro e w4 ⟨rfl,fE,ht⟩;rw[qT (by rw[HL0.o];decide)] at fE ⊢;simp only at fE ⊢;obtain⟨v0,hv⟩:=ae (val (L0.take 8));rw[hv];have I4:v0<256 ^ 8:=NJ;have hL:(L0.drop 8).length=20:=by rw[lY,HL0.o]
 obtain⟨L1,Mm⟩:=ae (L0.drop 8);rw[Mm] at fE hL;have hvi:(v0:Int)<256 ^ 8:=by exact_mod_cast I4
 have MS:=aa fE;have nU:=aa (iJ.o.trans ht);have Yb:=aa hL;have HV0:=aa hv;have vp:=aa Mm;have amP:=aa I4;clear fE ht hL hv Mm I4 hvi;go_wp2_with fail;refine(ik p q L1 0 w4 MS.o).mono ?_;rintro e w5 ⟨rfl,fE,ht⟩;rw[qT (by rw[Yb.o];decide)] at fE ⊢;simp only at fE ⊢;obtain⟨v1,hv⟩:=ae (val (L1.take 8));rw[hv];have I4:v1<256 ^ 8:=NJ;have hL:(L1.drop 8).length=12:=by rw[lY,Yb.o]
 obtain⟨L2,Mm⟩:=ae (L1.drop 8);rw[Mm] at fE hL;have hvi:(v1:Int)<256 ^ 8:=by exact_mod_cast I4
 have alh:=aa fE;have pz:=aa (nU.o.trans ht);have R9:=aa hL;have HV1:=aa hv;have wL:=aa Mm;have amO:=aa I4;clear fE ht hL hv Mm I4 hvi;go_wp2_with fail;refine(gD p q L2 0 w5 alh.o).mono ?_;rintro e w6 ⟨rfl,fE,ht⟩;rw[qT (by rw[R9.o];decide)] at fE ⊢;simp only at fE ⊢;obtain⟨v2,hv⟩:=ae (val (L2.take 4));rw[hv];have I4:v2<256 ^ 4:=NJ;have hL:(L2.drop 4).length=8:=by rw[lY,R9.o]
 obtain⟨L3,Mm⟩:=ae (L2.drop 4);rw[Mm] at fE hL;have hvi:(v2:Int)<256 ^ 4:=by exact_mod_cast I4
 have alg:=aa fE;have vn:=aa (pz.o.trans ht);have HL3:=aa hL;have HV2:=aa hv;have J':=aa Mm;have ak4:=aa I4;clear fE ht hL hv Mm I4 hvi;have hv2:(v2:Int)<4294967296:=by have:=ak4.o;omega
 have al1:(0:Int)≤(v2:Int):=ai;go_wp2_with fail;refine(gD p q L3 0 w6 alg.o).mono ?_;rintro e w7 ⟨rfl,fE,ht⟩;rw[qT (by rw[HL3.o];decide)] at fE ⊢;simp only at fE ⊢;obtain⟨v3,hv⟩:=ae (val (L3.take 4));rw[hv];have I4:v3<256 ^ 4:=NJ;have hL:(L3.drop 4).length=4:=by rw[lY,HL3.o]
 obtain⟨L4,Mm⟩:=ae (L3.drop 4);rw[Mm] at fE hL;have hvi:(v3:Int)<256 ^ 4:=by exact_mod_cast I4
 have aa5:=aa fE;have HT7:=aa (vn.o.trans ht);have HL4:=aa hL;have HV3:=aa hv;have Rw:=aa Mm;have amN:=aa I4;clear fE ht hL hv Mm I4 hvi;go_wp2_with fail;obtain⟨v4,hv4⟩:=ae (val (L4.take 4));obtain⟨CR,hCR⟩:=ae (ij 0 (b.take 28));have hres:Br b=if v4=CR∧g4=uL then(if Hd.may ⟨v0,v1,v2,v3⟩=true then some ⟨v0,v1,v2,v3⟩else none)else none:=by rw[aeP b (by rw[HN.o];exact hs),HE0.o,vp.o,wL.o,J'.o,Rw.o,HV0.o,HV1.o,HV2.o,HV3.o,hv4,hCR,uV.o]
 have aae:isg=decide (g4=uL):=by rw[←HIS.o,Bool.eq_iff_iff,beq_iff_eq,decide_eq_true_iff];rfl
 obtain⟨su,hhb⟩:=ae w7.heap.size;obtain⟨w8,hw8⟩:=ae (w7.alloc (.cells #[.int .u64 (v0:Nat),.int .u64 (v1:Nat),.int .i64 (v2:Nat),.int .u32 (v3:Nat)] 129));have mY:=aK hw8;have ha8:aG w8 su 129 (n9 ⟨v0,v1,v2,v3⟩):=by rw[←hw8,←hhb];exact aG.fresh w7 _ _
 have Wo:aI (· =q) w2 w8:=HT7.o.ak mY;have hqr:r≠q:=fun e=>Lf
 have ah4:aG w8 r 129 #[.int .u64 0,.int .u64 0,.int .i64 0,.int .u32 0]:=Wo.arr jB.o hqr;have aa4:=aa (show jV w8 p q L4 0 from⟨aa5.o.own.ah mY,aa5.o.rest.ah mY⟩);have ah3:Bs w8 (some ⟨g,off,none⟩) b:=(HB.o.ah cu.o).cR Wo fun g' o' e hlt hq=>by
  injection e with e;injection e with e
  have h1:g<w.heap.size:=SY;have h2:=HQ.o;have h3:=bA.o.size;omega
 have Cz:w.heap.size≤q:=aV bA.o.size HQ.o;have hT8:cj w8:=(HT.o.ah cu.o).cR Wo (fun e=>TB);rw[hw8,hhb];have afH:=aa hres;have ai3:=aa aae;have ou:=aa mY;have wM:=aa ha8;have aiE:=aa Wo;have ajz:=aa ah4;have ajt:=aa ah3;have adj:=aa hT8;have HV4:=aa hv4;have Zl:=aa hCR;have HQW:=aa Cz;have HHB:=aa hhb;clear hres aae mY ha8 Wo hqr ah4 ah3 hT8 hv4 hCR Cz hhb hw8;by_cases mG:v4=CR
 ·have kU:((v4:Int) != (CR:Int))=false:=by simp[mG]
  have CZ:(v4 != CR)=false:=wS;refine wp_region_held_drew (S:=(fun _=>True)) bh oW (fun hHeld=>?_);refine SH 0 2 3 ?_;refine cJ 1 fun K hK=>?_
  go_simp;refine(gD p q L4 0 w8.drew (show jV w8.drew p q L4 0 from⟨aa4.o.own.ah (az (ar _ _)),aa4.o.rest.ah (az (ar _ _))⟩)).mono ?_;rintro e w9 ⟨rfl,fE,ht⟩;rw[qT (by rw[HL4.o];decide)];simp only;rw[HV4.o];have ht9:aI (· =q) w8 w9:=⟨ht.os,ht.tape,ht.output,ht.size,ht.block⟩;have Ef:=aa ht9;clear fE ht ht9;go_wp2_with fail;refine bW hK oW fun sy=>?_
  clear hK K;refine cJ 4 fun K hK=>?_
  go_simp;have hB9:Bs w9 (some ⟨g,off,none⟩) (b.take 28):=(ajt.o.cR Ef.o fun g' o' e hlt hq=>by
   injection e with e;injection e with e
   have h1:g<w.heap.size:=SY;have h2:=HQW.o;omega).take 28
  have h28:(b.take 28).length=28:=by rw[gT,HN.o];omega
  have hSM:=Cr.qB (b.take 28) (some ⟨g,off,none⟩) c w9 hB9 (adj.o.cR Ef.o (fun e=>TM)) (by rw[h28];decide);rw[h28,Zl.o] at hSM;refine ag hSM ?_;clear hB9 h28 hSM;go_wp2_with fail;refine bW hK oW fun lI=>?_
  clear hK K;refine P2 5 6 7 8 9 10 ?_;refine bM ?_;have aeD:q<su:=by
   obtain⟨_,_,h1,_⟩:=aa5.o.rest.ex;have h2:=h1.lt;have h3:=HHB.o;omega
  have hqr:r≠q:=fun e=>Lf
  have Ww:aG w9 r 129 #[.int .u64 0,.int .u64 0,.int .i64 0,.int .u32 0]:=Ef.o.arr ajz.o hqr;have dG:aG w9 su 129 #[.int .u64 (v0:Nat),.int .u64 (v1:Nat),.int .i64 (v2:Nat),.int .u32 (v3:Nat)]:=Ef.o.arr wM.o ai;have Ws:Below w.heap.size w w9:=(aiE.o.trans Ef.o).fresh cu.o (fun k e=>by have:=HQW.o;omega);have af0:=aa Ww;have pA:=aa dG;have afR:=aa Ws;have k0:=dG.cl 0;have k1:=dG.cl 1;have k2:=dG.cl 2;have k3:=dG.cl 3;clear aeD hqr Ww dG Ws;clear kU CZ;cases hi:isg with
  | false=>
   have HNO:=aa (show Br b=none from by rw[afH.o,if_neg (fun hh=>by have h1:=ai3.o;rw[decide_eq_true hh.2,hi] at h1;cases h1)]);rw[Bool.not_false];clear hi mG;exact acx
  | true=>
   have hgg:g4=uL:=of_decide_eq_true (by rw[←ai3.o,hi]);rw[Bool.not_true];have KC:=F2 ⟨v0,v1,v2,v3⟩ w9;unfold n9 at KC;simp only at KC;have afC:=aa (show Br b=if Hd.may ⟨v0,v1,v2,v3⟩=true then some ⟨v0,v1,v2,v3⟩else none from by rw[afH.o,if_pos ⟨mG,hgg⟩]);obtain⟨my,hmy⟩:=ae (Hd.may ⟨v0,v1,v2,v3⟩);rw[hmy] at KC afC;have KC:=aa KC;clear hmy hgg hi mG;go_wp2_with fail;refine KC.o.mono ?_;rintro e wm ⟨rfl,hbm⟩;have hAm:=pA.o.ah hbm;have l0:=hAm.cl 0;have l1:=hAm.cl 1;have l2:=hAm.cl 2;have l3:=hAm.cl 3;have ajx:=af0.jC hbm;have HBM:=aa (show Below w.heap.size w wm from av afR.o hbm);clear hAm hbm;cases my with
   | false=>
    have HNO:=aa (show Br b=none from by rw[afC.o];rfl);go_wp2_with (first|(refine aj rfl 129 _ _ rfl r 129 _ #[.int .u64 0,.int .u64 0,.int .i64 0,.int .u32 0] ajx.o rfl rfl rfl bc (cE Hd.zero) ?_;intro wz gK eM hsz;have kY:=aa gK;have iF:=aa eM;clear gK eM hsz));refine bodyPost_ret (results_cell_tmp zN _ iI (aL 129 kY.o _ cq rfl bc)) rfl ⟨⟨2,?_,?_⟩,br HBM.o iF.o AI⟩
    ·rw[HNO.o];rfl
    rw[HNO.o];simp
   | true=>
    have uk:=aa (show Br b=some ⟨v0,v1,v2,v3⟩from by rw[afC.o];rfl);go_wp2_with (first|(refine aj rfl 129 _ _ rfl r 129 _ #[.int .u64 (v0:Nat),.int .u64 (v1:Nat),.int .i64 (v2:Nat),.int .u32 (v3:Nat)] ajx.o rfl rfl rfl bc (cE ⟨v0,v1,v2,v3⟩) ?_;intro wz gK eM hsz;have kY:=aa gK;have iF:=aa eM;clear gK eM hsz));refine bodyPost_ret (results_cell_tmp zN _ iI (aL 129 kY.o _ cq rfl bc)) rfl ⟨⟨0,?_,?_⟩,br HBM.o iF.o AI⟩
    ·rw[uk.o];rfl
    rw[uk.o];simp
 have kU:((v4:Int) != (CR:Int))=true:=fZ;have CZ:(v4 != CR)=true:=wS;refine wp_region_held_drew (S:=(fun _=>True)) bh oW (fun hHeld=>?_);refine SH 0 2 3 ?_;refine cJ 1 fun K hK=>?_
 go_simp;refine(gD p q L4 0 w8.drew (show jV w8.drew p q L4 0 from⟨aa4.o.own.ah (az (ar _ _)),aa4.o.rest.ah (az (ar _ _))⟩)).mono ?_;rintro e w9 ⟨rfl,fE,ht⟩;rw[qT (by rw[HL4.o];decide)];simp only;rw[HV4.o];have ht9:aI (· =q) w8 w9:=⟨ht.os,ht.tape,ht.output,ht.size,ht.block⟩;have Ef:=aa ht9;clear fE ht ht9;go_wp2_with fail;refine bW hK oW fun sy=>?_
 clear hK K;refine cJ 4 fun K hK=>?_
 go_simp;have hB9:Bs w9 (some ⟨g,off,none⟩) (b.take 28):=(ajt.o.cR Ef.o fun g' o' e hlt hq=>by
  injection e with e;injection e with e
  have h1:g<w.heap.size:=SY;have h2:=HQW.o;omega).take 28
 have h28:(b.take 28).length=28:=by rw[gT,HN.o];omega
 have hSM:=Cr.qB (b.take 28) (some ⟨g,off,none⟩) c w9 hB9 (adj.o.cR Ef.o (fun e=>TM)) (by rw[h28];decide);rw[h28,Zl.o] at hSM;refine ag hSM ?_;clear hB9 h28 hSM;go_wp2_with fail;refine bW hK oW fun lI=>?_
 clear hK K;refine P2 5 6 7 8 9 10 ?_;refine bM ?_;have aeD:q<su:=by
  obtain⟨_,_,h1,_⟩:=aa5.o.rest.ex;have h2:=h1.lt;have h3:=HHB.o;omega
 have hqr:r≠q:=fun e=>Lf
 have Ww:aG w9 r 129 #[.int .u64 0,.int .u64 0,.int .i64 0,.int .u32 0]:=Ef.o.arr ajz.o hqr;have dG:aG w9 su 129 #[.int .u64 (v0:Nat),.int .u64 (v1:Nat),.int .i64 (v2:Nat),.int .u32 (v3:Nat)]:=Ef.o.arr wM.o ai;have Ws:Below w.heap.size w w9:=(aiE.o.trans Ef.o).fresh cu.o (fun k e=>by have:=HQW.o;omega);have af0:=aa Ww;have pA:=aa dG;have afR:=aa Ws;have k0:=dG.cl 0;have k1:=dG.cl 1;have k2:=dG.cl 2;have k3:=dG.cl 3;clear aeD hqr Ww dG Ws;have HNO:=aa (show Br b=none from by rw[afH.o,if_neg (fun hh=>mG hh.1)]);exact acx
theorem Xl(b:By)(A:Option Addr)(c:Nat)(w:World)(hB:Bs w A b)(hl:b.length≤268435456)(hc:b.length≤c)(ht:cj w): Calls af 364 #[.slice A b.length c] w (XO b w):=by
 by_cases hs:b.length<32
 ·exact JO b A c w hs
 obtain⟨g,off,rfl,_⟩:=hB (by intro e;rw[e] at hs;simp at hs);exact MG b g off c w ai hB hl hc ht
end En
end
section
namespace En
theorem N0(g:Rg): ∀ (ps:List Piece) (d:bJ) (acc:By),(∀ x∈ps,x.f<x.t∧x.t≤d.dk.size)→(G8 g d ps acc).2.1.length≤acc.length+P3 ps
 | [],d,acc,_=>aY _
 | x::ps,d,acc,h=>by
  rw[G8,P3];have hx:=h x (List.mem_cons_self ..);split
  ·have h1:=N0 g ps (d.read (g.from_+x.s:Nat)).2.2 (acc++((d.read (g.from_+x.s:Nat)).2.1.take x.t).drop x.f) (fun y hy=>by rw[bJ.lQ];exact h y (List.mem_cons_of_mem _ hy));have h2:(((d.read (g.from_+x.s:Nat)).2.1.take x.t).drop x.f).length≤x.t - x.f:=by rw[lY,gT];omega
   rw[List.length_append] at h1;omega
  exact Nat.zero_le _
theorem Rg.rV(g:Rg)(d:bJ)(at_ n:Nat)(hs:1≤d.dk.size): (g.read d at_ n).2.1.length≤n:=by
 unfold Rg.read;split
 ·exact Nat.zero_le _
 have h1:=N0 g (pieces d.dk.size (n:Int).toNat (at_:Int).toNat (n:Int).toNat) d [] (fun x hx=>pM _ hs _ _ _ (aY _) x hx);rw[nE _ hs _ _ _ (aY _),Int.toNat_natCast] at h1;simpa using h1
def J1(S:Nat→Prop)(p:Nat)(R:Int × Hd × bJ)(w:World)(e:Ending)(w':World): Prop:=e= .returned (.tuple #[.agg (n9 R.2.1),.int .i64 R.1])∧dB p R.2.2 S w'∧aI S w w'
theorem JN{S:Nat→Prop}{w:World}{r p:Nat}{g:Rg}{d:bJ}(h:fV w r p g d.dk.size)(hD:dB p d S w)(hr: ¬S r)(ht:cj w)(QH: ¬S 1):
  Calls af 334 #[.agg #[.pointer (some ⟨r,0,none⟩)]] w (J1 S p (dc g d) w):=by
 obtain⟨bx,mr⟩:=ae w.heap.size;obtain⟨w0,hw0⟩:=ae (w.alloc (.cells #[.pointer (some ⟨r,0,none⟩)] 90));obtain⟨rr,vh⟩:=ae w0.heap.size;obtain⟨w1,a8⟩:=ae (w0.alloc (.cells #[.int .u64 0,.int .u64 0,.int .i64 0,.int .u32 0] 129));have hb0:=aK hw0;have y9:=aK a8;have hb1:Below w.heap.size w w1:=av hb0 y9;have ha0:=aJ hw0 mr;have ha1:=ha0.ah y9;have ha2:=aJ a8 vh;have hr1:bx+1=rr:=by rw[←vh,←hw0,←mr];simp only[World.alloc,Array.size_push]
 have x1:=ha1.cl 0;have hSl:=(aF p d).lt hD;have ahd: ¬S bx:=fun hs=>by have:=hSl _ hs;omega
 have aha: ¬S rr:=fun hs=>by have:=hSl _ hs;omega
 obtain⟨er,o6⟩:=ae ((g.read d (0:Nat) d.dk.size).1);obtain⟨bs,tM⟩:=ae ((g.read d (0:Nat) d.dk.size).2.1);obtain⟨d1,Wf⟩:=ae ((g.read d (0:Nat) d.dk.size).2.2);have fE:g.read d ((0:Nat):Int) d.dk.size=(er,bs,d1):=by rw[←o6,←tM,←Wf]
 have hlen:bs.length≤d.dk.size:=by rw[←tM];exact g.rV d 0 d.dk.size hD.ok.size.1
 have aaa:dc g d=if er=0 then(0,(match Br bs with|some h=>if h.len≤g.bytes d.dk.size - d.dk.size then h else Hd.zero|none=>Hd.zero),d1)else(er,Hd.zero,d1):=by
  unfold dc;rw[show(g.read d 0 d.dk.size)=(er,bs,d1)from fE];try rfl
 obtain⟨R,hR⟩:=ae (dc g d);rw[hR] at aaa ⊢;have hsz:=hD.ok.size;have yO:=aa fun(W:World) (hW:Below w.heap.size w W)=>kF (h.ah hW)
 have uj:=aa fun(W:World) (hW:Below w.heap.size w W)=>JU (h.ah hW) ((aF p d).ak hD hW) hr 0 d.dk.size aM ai
 rw[fE] at uj;obtain⟨size,hsize⟩:=ae d.dk.size;have HH:=aa h;have HD:=aa hD;rw[hsize] at yO uj hlen aaa hsz HH;have aa7:=aa aaa;have uU:=aa hlen;have bA:=aa hb1;have dF:=aa ha1;have jB:=aa ha2;have XZ:=aa hw0;have sK:=aa a8;have yf:=aa mr;have wI:=aa hr1;have HNB:=aa ahd;have R8:=aa aha;have HT:=aa ht;have HTS:=aa QH;have oT:=aa hr;have mz:=aa hsz;have pY:=aa hSl;clear hsize h hD hr ht QH hb0 y9 hb1 ha0 ha1 ha2 hr1 hSl ahd aha o6 tM Wf fE hlen aaa hR hsz hw0 a8 vh mr;go_enter Tryz.func334,Tryz.ntmps334;go_wp2_with fail;rw[XZ.o,sK.o,yf.o,wI.o];refine tW (S:=(fun w'=>w'.cell? ⟨bx,0,none⟩=some (.pointer (some ⟨r,0,none⟩)))) (by exact x1) fun hHeld=>?_
 refine lA 0 1 2 3 ?_;refine cJ 4 fun K hK=>?_
 go_simp;refine ag (yO.o w1.drew (az bA.o)) ?_;go_wp2_with fail;refine bW hK (by exact x1) fun lI=>?_
 clear hK K;refine cJ 5 fun K hK=>?_
 go_simp;refine(uj.o w1.drew (az bA.o)).mono ?_;rintro e w2 ⟨⟨A,c,rfl,hblk,hc⟩,Mo,ud⟩;have q1:w2.cell? ⟨bx,0,none⟩=some (.pointer (some ⟨r,0,none⟩)):=(World.cell?_of_block (a:=⟨bx,0,none⟩) (ud.block bx dF.o.lt HNB.o)).trans x1;have fC:=aa hblk;have HC:=aa hc;have oo:=aa Mo;have gI:=aa (show aI S w w2 from(aI.aW bA.o).trans ⟨ud.os,ud.tape,ud.output,ud.size,ud.block⟩);have ajB:=aa (show aG w2 rr 129 #[.int .u64 0,.int .u64 0,.int .i64 0,.int .u32 0] from(ud.block rr jB.o.lt R8.o).trans jB.o);clear hblk hc Mo ud;go_wp2_with fail;refine bW hK (by exact q1) fun ju=>?_
 clear hK K;refine lA 6 7 8 9 ?_;refine ty 10 ?_;refine bM ?_;by_cases h0:er=0
 ·subst h0;have Cb:=aa (show R=(0,(match Br bs with|some h=>if h.len≤g.bytes size - size then h else Hd.zero|none=>Hd.zero),d1)from by rw[aa7.o,if_pos rfl]);have HSR:=aa (Xl bs A c w2 (fun hn=>by obtain⟨g',rfl,_,hb⟩:=fC.o hn;exact hb.bs hn) (by have h1:=uU.o;have h2:=mz.o;omega) HC.o (HT.o.cR gI.o HTS.o));clear aa7;go_wp2_with fail;refine HSR.o.mono ?_;rintro e w3 ⟨⟨er2,rfl,ahq⟩,hb3⟩;obtain⟨hh,hhh⟩:=ae ((Br bs).getD Hd.zero);rw[hhh];have s1:w3.cell? ⟨bx,0,none⟩=some (.pointer (some ⟨r,0,none⟩)):=(hb3.cell (p:=⟨bx,0,none⟩) (bE _ _ q1)).trans q1;have HHH:=aa hhh;have ai4:=aa ahq;have dV:=aa hb3;have pC:=ajB.jC hb3;have pB:=aa (aG.fresh w3 129 #[.int .u64 0,.int .u64 0,.int .i64 0,.int .u32 0]);clear hhh ahq hb3 HSR;go_wp2_with (first|(refine aj rfl 129 _ _ rfl w3.heap.size 129 _ (n9 hh) pB.o rfl rfl rfl bc (cE hh) ?_;intro w5 gB fF hs5;have pj:=aa gB;have p3:=aa fF;clear gB fF hs5));obtain⟨hk,hhk⟩:=ae w3.heap.size;have aal:Below w3.heap.size w3 w5:=br (ay (ar _ _) _) p3.o (aY _);have gB:aG w5 hk 129 (n9 hh):=by rw[←hhk];exact pj.o
  rw[hhk];have t1:w5.cell? ⟨bx,0,none⟩=some (.pointer (some ⟨r,0,none⟩)):=(aal.cell (p:=⟨bx,0,none⟩) (bE _ _ s1)).trans s1;have k0:w5.cell? ⟨hk,0,none⟩=some (.int .u64 (hh.gen:Nat)):=gB.cell 0;have k1:w5.cell? ⟨hk,1,none⟩=some (.int .u64 (hh.mh:Nat)):=gB.cell 1;have k2:w5.cell? ⟨hk,2,none⟩=some (.int .i64 (hh.len:Nat)):=gB.cell 2;have k3:w5.cell? ⟨hk,3,none⟩=some (.int .u32 (hh.sum:Nat)):=gB.cell 3;have af3:=pC.jC aal;have RF:=aa (show Below w2.heap.size w2 w5 from av dV.o aal);clear aal gB pj p3 pB hhk;by_cases hz:er2=0
  ·subst hz;obtain⟨h',hh'⟩: ∃ h',Br bs=some h':=Option.isSome_iff_exists.1 (ai4.o.1 rfl);have hhe:hh=h':=by rw[←HHH.o,hh'];rfl
   have hby:=HH.o.eU;have uT:=aa fun(W:World) (hW:aI S w W)=>ny (HH.o.cR hW oT.o)
   have HRZ:=aa fun(W:World) (hW:aI S w W)=>kF (HH.o.cR hW oT.o)
   obtain⟨B,hB⟩:=ae (g.bytes size);have hBs:size≤B:=by rw[←hB];unfold Rg.bytes;exact Nat.le_mul_of_pos_left _ HH.o.count.1
   obtain⟨m,hm⟩:=ae (B - size);have hbm:(B:Int) - (size:Int)=(m:Int):=ai;have xO:(m:Int)≤268435456:=ai;have hwm:IntKind.i64.wrap ((m:Nat):Int)=((m:Nat):Int):=IntWalk.i64_in _ ai;rw[hB] at uT;have J7:=aa (show R=(0,(if hh.len≤m then hh else Hd.zero),d1)from by rw[Cb.o,hh',hB,hm,hhe]);clear hh' hhe hby hB hBs hm Cb;obtain⟨ln,hln⟩:=ae hh.len;rw[hln] at k2 J7;have HLN:=aa hln;clear hln;by_cases hle:ln≤m
   ·have hlm: ¬(m:Int)<(ln:Int):=by omega
    have Cb:=aa (show R=(0,hh,d1)from by rw[J7.o,if_pos hle]);clear J7 hle;refine wp_region_held_drew (S:=(fun w'=>w'.cell? ⟨bx,0,none⟩=some (.pointer (some ⟨r,0,none⟩))∧w'.cell? ⟨hk,2,none⟩=some (.int .i64 (ln:Nat)))) bh (by exact⟨t1,k2⟩) (fun hHeld=>?_);refine ov 0 1 2 3 4 5 6 8 ?_;refine ty 9 ?_;refine cJ 7 fun K hK=>?_
    go_simp;refine(uT.o w5.drew ((gI.o.ak RF.o).ak (az (ar _ _)))).mono ?_;rintro e w6 ⟨rfl,mZ⟩;have sw:Below w5.heap.size w5 w6:=av (az (ar _ _)) mZ;have u1:w6.cell? ⟨bx,0,none⟩=some (.pointer (some ⟨r,0,none⟩)):=(sw.cell (p:=⟨bx,0,none⟩) (bE _ _ t1)).trans t1;have u2:w6.cell? ⟨hk,2,none⟩=some (.int .i64 (ln:Nat)):=(sw.cell (p:=⟨hk,2,none⟩) (bE _ _ k2)).trans k2;have u0:w6.cell? ⟨hk,0,none⟩=some (.int .u64 (hh.gen:Nat)):=(sw.cell (p:=⟨hk,0,none⟩) (bE _ _ k0)).trans k0;have u4:w6.cell? ⟨hk,1,none⟩=some (.int .u64 (hh.mh:Nat)):=(sw.cell (p:=⟨hk,1,none⟩) (bE _ _ k1)).trans k1;have u3:w6.cell? ⟨hk,3,none⟩=some (.int .u32 (hh.sum:Nat)):=(sw.cell (p:=⟨hk,3,none⟩) (bE _ _ k3)).trans k3;have tx:=af3.jC sw;have M6:=aa (show Below w2.heap.size w2 w6 from av RF.o sw);clear mZ sw;go_wp2_with fail;refine bW hK EA fun o8=>?_
    clear hK K;refine cJ 10 fun K hK=>?_
    go_simp;refine ag (HRZ.o w6 (gI.o.ak M6.o)) ?_;go_wp2_with fail;refine bW hK EA fun OP=>?_
    clear hK K;refine SH 11 12 13 ?_;refine bM ?_;go_wp2_with (first|(refine aj rfl 129 _ _ rfl rr 129 _ #[.int .u64 (hh.gen:Nat),.int .u64 (hh.mh:Nat),.int .i64 (ln:Nat),.int .u32 (hh.sum:Nat)] tx.o rfl rfl rfl bc (by simp[Value.oneCell']) ?_;intro wz gK eM hsz;have kY:=aa gK;have iF:=aa eM;clear gK eM hsz));refine bodyPost_ret (results_cell_tmp zM _ iI (aL 129 kY.o _ cq rfl bc)) rfl ?_;unfold J1;rw[Cb.o];have hrw:w.heap.size≤rr:=EZ;have hD9:=(aF p d1).ak oo.o M6.o;have eM:GM w6 wz (some rr):=⟨iF.o.os,iF.o.tape,iF.o.output,iF.o.size,iF.o.block⟩;refine⟨by rw[←HLN.o];rfl,(aF p d1).same hD9 eM.size (fun k hk=>eM.block k ((aF p d1).lt hD9 k hk) (fun e=>Ah)),(gI.o.ak M6.o).grown eM (fun k e=>E7)⟩
   have hlm:(m:Int)<(ln:Int):=ai;have Cb:=aa (show R=(0,Hd.zero,d1)from by rw[J7.o,if_neg hle]);clear J7 hle;refine wp_region_held_drew (S:=(fun w'=>w'.cell? ⟨bx,0,none⟩=some (.pointer (some ⟨r,0,none⟩))∧w'.cell? ⟨hk,2,none⟩=some (.int .i64 (ln:Nat)))) bh (by exact⟨t1,k2⟩) (fun hHeld=>?_);refine ov 0 1 2 3 4 5 6 8 ?_;refine ty 9 ?_;refine cJ 7 fun K hK=>?_
   go_simp;refine(uT.o w5.drew ((gI.o.ak RF.o).ak (az (ar _ _)))).mono ?_;rintro e w6 ⟨rfl,mZ⟩;have sw:Below w5.heap.size w5 w6:=av (az (ar _ _)) mZ;have u1:w6.cell? ⟨bx,0,none⟩=some (.pointer (some ⟨r,0,none⟩)):=(sw.cell (p:=⟨bx,0,none⟩) (bE _ _ t1)).trans t1;have u2:w6.cell? ⟨hk,2,none⟩=some (.int .i64 (ln:Nat)):=(sw.cell (p:=⟨hk,2,none⟩) (bE _ _ k2)).trans k2;have u0:w6.cell? ⟨hk,0,none⟩=some (.int .u64 (hh.gen:Nat)):=(sw.cell (p:=⟨hk,0,none⟩) (bE _ _ k0)).trans k0;have u4:w6.cell? ⟨hk,1,none⟩=some (.int .u64 (hh.mh:Nat)):=(sw.cell (p:=⟨hk,1,none⟩) (bE _ _ k1)).trans k1;have u3:w6.cell? ⟨hk,3,none⟩=some (.int .u32 (hh.sum:Nat)):=(sw.cell (p:=⟨hk,3,none⟩) (bE _ _ k3)).trans k3;have tx:=af3.jC sw;have M6:=aa (show Below w2.heap.size w2 w6 from av RF.o sw);clear mZ sw;go_wp2_with fail;refine bW hK EA fun o8=>?_
   clear hK K;refine cJ 10 fun K hK=>?_
   go_simp;refine ag (HRZ.o w6 (gI.o.ak M6.o)) ?_;go_wp2_with fail;refine bW hK EA fun OP=>?_
   clear hK K;refine SH 11 12 13 ?_;refine bM ?_;go_wp2_with (first|(refine aj rfl 129 _ _ rfl rr 129 _ #[.int .u64 0,.int .u64 0,.int .i64 0,.int .u32 0] tx.o rfl rfl rfl bc (cE Hd.zero) ?_;intro wz gK eM hsz;have kY:=aa gK;have iF:=aa eM;clear gK eM hsz));refine bodyPost_ret (results_cell_tmp zM _ iI (aL 129 kY.o _ cq rfl bc)) rfl ?_;unfold J1;rw[Cb.o];have hrw:w.heap.size≤rr:=EZ;have hD9:=(aF p d1).ak oo.o M6.o;have eM:GM w6 wz (some rr):=⟨iF.o.os,iF.o.tape,iF.o.output,iF.o.size,iF.o.block⟩;refine⟨rfl,(aF p d1).same hD9 eM.size (fun k hk=>eM.block k ((aF p d1).lt hD9 k hk) (fun e=>Ah)),(gI.o.ak M6.o).grown eM (fun k e=>E7)⟩
  have sZ:(er2 != 0)=true:=by simp[hz]
  have hn:Br bs=none:=by
   have h1:=ai4.o;cases hc:Br bs with
   | none=>rfl
   | some x=>rw[hc] at h1;exact absurd (h1.2 rfl) hz
  have J7:=Cb;have Cb:=aa (show R=(0,Hd.zero,d1)from by rw[J7.o,hn]);clear J7 hz hn;refine wp_region_held_drew (S:=(fun _=>True)) bh oW (fun hHeld=>?_);refine ov 0 1 2 3 4 5 6 7 ?_;refine P2 8 9 10 11 12 13 ?_;refine bM ?_;go_wp2_with (first|(refine aj rfl 129 _ _ rfl rr 129 _ #[.int .u64 0,.int .u64 0,.int .i64 0,.int .u32 0] af3.o rfl rfl rfl bc (cE Hd.zero) ?_;intro wz gK eM hsz;have kY:=aa gK;have iF:=aa eM;clear gK eM hsz));refine bodyPost_ret (results_cell_tmp zM _ iI (aL 129 kY.o _ cq rfl bc)) rfl ?_;unfold J1;rw[Cb.o];have hrw:w.heap.size≤rr:=EZ;have hD9:=(aF p d1).ak oo.o RF.o;have eM:GM w5 wz (some rr):=⟨iF.o.os,iF.o.tape,iF.o.output,iF.o.size,iF.o.block⟩;refine⟨rfl,(aF p d1).same hD9 eM.size (fun k hk=>eM.block k ((aF p d1).lt hD9 k hk) (fun e=>Ah)),(gI.o.ak RF.o).grown eM (fun k e=>E7)⟩
 ·have hq:(er==0)=false:=by simp[h0]
  have Cb:=aa (show R=(er,Hd.zero,d1)from by rw[aa7.o,if_neg h0]);clear aa7 h0;go_wp2_with (first|(refine aj rfl 129 _ _ rfl rr 129 _ #[.int .u64 0,.int .u64 0,.int .i64 0,.int .u32 0] ajB.o rfl rfl rfl bc (cE Hd.zero) ?_;intro wz gK eM hsz;have kY:=aa gK;have iF:=aa eM;clear gK eM hsz));refine bodyPost_ret (results_cell_tmp zM _ iI (aL 129 kY.o _ cq rfl bc)) rfl ?_;unfold J1;rw[Cb.o];have hrw:w.heap.size≤rr:=EZ;refine⟨rfl,(aF p d1).same oo.o iF.o.size (fun k hk=>iF.o.block k ((aF p d1).lt oo.o k hk) (fun e=>Ah)),gI.o.grown iF.o (fun k e=>E7)⟩
