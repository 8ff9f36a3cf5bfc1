import Derived.Test.YtemighjbfanenaaGreatDoorPk21
import Derived.Lib.SlBytesConst
set_option linter.all false
set_option maxRecDepth 100000
set_option maxHeartbeats 16000000
namespace Go.Proofs.YtemighjbfanenaaGreatDoor
open RowKit
open Oc (il Bs fZ za iu gC Kb jU oK Xv ej cY lQ zV eM eG fF aP ed bu bQ le rh eP cI mV tk qZ eY val)
open Cr (cj ic)
open Go.Proofs.Tryz renaming underlying129→cq,prog→af,results364→Aj,results334→Ai
open Go.World renaming block_lt_of_cell?→bD,grownBy→G9
open List renaming length_take→gU,length_drop→tF,take→G8
open Nat renaming min_le_left→PW,le_refl→aQ,lt_of_lt_of_le→aW,le_trans→aT,pow_le_pow_right→CH
open RowKit.Below renaming refl→au
theorem acH{p:Prop}(h:p:=by
 go_wp2_with (first|(refine ah rfl 129 _ _ rfl r 129 _ #[.int .u64 0,.int .u64 0,.int .i64 0,.int .u32 0] aga.o rfl rfl rfl a8 (cB Hd.zero) ?_;intro wz gz eC hsz;have kH:=aa gz;have iw:=aa eC;clear gz eC hsz));refine bodyPost_ret (results_cell_tmp Aj _ im (aJ 129 kH.o _ cq rfl a8)) rfl ⟨⟨81,?_,?_⟩,bn af1.o iw.o Bg⟩
 ·rw[HNO.o];rfl
 rw[HNO.o];simp):p:=h
theorem Tb{p:Prop}(h:p:=by obtain⟨g',o',e',h1,_⟩:=HB.o (by intro e;have:=HN.o;rw[e] at this;simp at this;omega);injection e' with e';injection e' with e';omega):p:=h
theorem N0{p:Prop}(h:p:=by rw[←hv];exact aW (Oc.Az _) (CH (by decide) (by rw[gU];exact PW _ _))):p:=h
theorem AH{p:Prop}(h:p:=by injection e with e;subst e;exact Sn.o hk):p:=h
theorem Fp{p:Prop}(h:p:=by injection e with e;subst e;exact .inr hrw):p:=h
theorem TY{p:Prop}(h:p:=by have h1:=bD w _ (HT.o 0 (by decide));have h2:=HQW.o;simp only at h1;omega):p:=h
theorem Bg{p:Prop}(h:p:=by have:=uq.o;omega):p:=h
theorem ajW{p:Prop}(h:p:=by intro e;have:=HN.o;rw[e] at this;simp at this;omega):p:=h
theorem Fj{p:Prop}(h:p:=by have:=iY.o;have:=Ko.o.size;omega):p:=h
theorem Fh{p:Prop}(h:p:=by have h1:=yr.o;have h2:=wT.o;omega):p:=h
theorem TL{p:Prop}(h:p:=by have h1:=bD w _ (HT.o 0 (by decide));simp only at h1;omega):p:=h
theorem ajT{p:Prop}(h:p:=by rw[gU];exact PW _ _):p:=h
theorem Lz{p:Prop}(h:p:=by have h1:=HQ.o;have h2:=HRL.o;omega):p:=h
theorem xe{p:Prop}(h:p:=by simp[mA]):p:=h
theorem ES{p:Prop}(h:p:=by exact⟨u1,u2⟩):p:=h
section
namespace En
theorem uM(h:Hd): (uN h).length=28:=by simp[uN,uO,Oc.bF]
theorem mW(h:Hd): (H7 h).length=32:=by simp[H7,uM,Oc.bF]
structure Hd.Fit(h:Hd): Prop where
 gen:h.gen<18446744073709551616
 l8:h.l8<18446744073709551616
 len:h.len≤67108864
 sum:h.sum<4294967296
def adj(h:Hd)(w:World)(e:Ending)(w':World): Prop:=
 ∃ A c,e= .returned (.tuple #[.slice A 32 c,.int .i64 0])∧Bs w' A (H7 h)∧Below w.heap.size w w'∧32≤c∧(∀ g off,A=some ⟨g,off,none⟩→w.heap.size≤g)
theorem MY(h:Hd)(w:World)(hm:h.may=true)(hf:h.Fit)(ht:cj w): Calls af 301 #[.agg (oc h)] w (adj h w):=by
 have KV:=aa fun W=>Gk h W
 rw[hm] at KV;unfold oc at KV ⊢;obtain⟨gen,l8,len,sum⟩:=h;simp only at KV ⊢;have HF:=aa hf;have HT:=aa ht;clear hf ht hm;have hln:(0:Int)≤(len:Int):=aj;have hl4:(len:Int)≤67108864:=by have:=HF.o.len;simp only at this;omega
 have al2:IntKind.u32.wrap ((len:Nat):Int)=((len:Nat):Int):=IntWalk.u32_in _ aj;go_enter Tryz.func301,Tryz.ntmps301;go_wp2_with fail;obtain⟨b,hb⟩:=ae w.heap.size;obtain⟨w0,hw0⟩:=ae (w.alloc (.cells #[.int .u64 (gen:Nat),.int .u64 (l8:Nat),.int .i64 (len:Nat),.int .u32 (sum:Nat)] 129));have hb0:=aL hw0;have ha0:=aK hw0 hb;rw[hw0,hb];have HB:=aa hb;have Kt:=aa hb0;have HA0:=aa ha0;clear hw0 hb hb0 ha0;refine(KV.o w0).mono ?_;rintro e wa ⟨rfl,H8⟩;have hab:aG wa b 129 #[.int .u64 (gen:Nat),.int .u64 (l8:Nat),.int .i64 (len:Nat),.int .u32 (sum:Nat)]:=HA0.o.ai H8;have Zw:=aa (show Below w.heap.size w wa from av Kt.o H8);have HAB:=aa hab;clear H8 hab;have hcv:(convert 34 34 (.slice (some ⟨wa.heap.size+1,0,none⟩) 4 4)).run af ((wa.alloc (.cells #[.slice none 0 0] 150)).alloc (.cells #[.int .u8 71,.int .u8 65,.int .u8 78,.int .u8 71] 5))= .ok (.slice (some ⟨wa.heap.size+1,0,none⟩) 4 4) ((wa.alloc (.cells #[.slice none 0 0] 150)).alloc (.cells #[.int .u8 71,.int .u8 65,.int .u8 78,.int .u8 71] 5 (4,5))):=by
  have:=Go.Lib.run_convert_bytes_const (P:=af) (wa.alloc (.cells #[.slice none 0 0] 150)) 34 5 #[.int .u8 71,.int .u8 65,.int .u8 78,.int .u8 71] 4 4 Tryz.underlying34 Tryz.underlying5;rw[World.size_alloc] at this;exact this
 go_wp2_with fail;obtain⟨p,hp⟩:=ae wa.heap.size;have hp1:b+1≤p:=by rw[←hp];exact aW HAB.o.lt (aQ _)
 obtain⟨w1,aZ⟩:=ae (((wa.alloc (.cells #[.slice none 0 0] 150)).alloc (.cells #[.int .u8 71,.int .u8 65,.int .u8 78,.int .u8 71] 5 (4,5))));have aab:eG w1 p []:=by rw[←aZ,←hp];exact(Oc.eG.fresh wa).ai (ax (au _ _) _)
 have hb1:Below wa.heap.size wa w1:=by rw[←aZ];exact ax (ax (au _ _) _) _
 have ha1:aG w1 b 129 #[.int .u64 (gen:Nat),.int .u64 (l8:Nat),.int .i64 (len:Nat),.int .u32 (sum:Nat)]:=HAB.o.ai hb1;have kX:w1.heap[p+1]? =some (.cells #[.int .u8 71,.int .u8 65,.int .u8 78,.int .u8 71] 5 (4,5)):=by
  have hsz:(wa.alloc (.cells #[.slice none 0 0] 150)).heap.size=wa.heap.size+1:=World.size_alloc _ _;rw[←aZ,←hp,←hsz];show((wa.alloc (.cells #[.slice none 0 0] 150)).heap.push _)[(wa.alloc (.cells #[.slice none 0 0] 150)).heap.size]? =_
  exact Array.getElem?_push_size
 have hgB:Bs w1 (some ⟨p+1,0,none⟩) uO:=fun _=>⟨p+1,0,rfl,(Array.getElem?_eq_some_iff.1 kX).1,fun i u hu=>by
  rw[Nat.zero_add,show w1.cell? ⟨p+1,i,none⟩=(#[Value.int .u8 71,.int .u8 65,.int .u8 78,.int .u8 71]:Array Value)[i]? from by simp[World.cell?,kX],←hu,←Array.getElem?_toList];rfl⟩
 rw[hp];rw[aZ];have x0:=ha1.cl 0;have x1:=ha1.cl 1;have x2:=ha1.cl 2;have x3:=ha1.cl 3;have iY:=aa ha1.lt;have HP:=aa hp1;have HPE:=aa hp;have Sv:=aa hgB;have X5:=aa aab;have bz:=aa (show Below w.heap.size w w1 from av Zw.o hb1);clear aab hb1 ha1 kX hgB aZ hp1 hp;refine(Oc.zV p [] uO ⟨p+1,0,none⟩ 4 w1 X5.o Sv.o aN aN).mono ?_;rintro en w2 ⟨⟨u,rfl⟩,Jp,rA⟩;have Ip:w2.cell? ⟨b,0,none⟩=some (.int .u64 (gen:Nat)):=(rA.cells rR ib 0).trans x0;have Il:w2.cell? ⟨b,1,none⟩=some (.int .u64 (l8:Nat)):=(rA.cells rR ib 1).trans x1;have Ij:w2.cell? ⟨b,2,none⟩=some (.int .i64 (len:Nat)):=(rA.cells rR ib 2).trans x2;have abG:w2.cell? ⟨b,3,none⟩=some (.int .u32 (sum:Nat)):=(rA.cells rR ib 3).trans x3;have Pt:=aa (rA);have X4:=aa Jp;clear Jp rA x0 x1 x2 x3;go_wp2_with fail;refine(Oc.ej p gen _ w2 X4.o (by simp[uO]) HF.o.gen).mono ?_;rintro en w3 ⟨⟨u,rfl⟩,Jo,ry⟩;have Io:w3.cell? ⟨b,0,none⟩=some (.int .u64 (gen:Nat)):=(ry.cells AF ib 0).trans Ip;have Ik:w3.cell? ⟨b,1,none⟩=some (.int .u64 (l8:Nat)):=(ry.cells AF ib 1).trans Il;have Ii:w3.cell? ⟨b,2,none⟩=some (.int .i64 (len:Nat)):=(ry.cells AF ib 2).trans Ij;have abF:w3.cell? ⟨b,3,none⟩=some (.int .u32 (sum:Nat)):=(ry.cells AF ib 3).trans abG;have Ps:=aa (Pt.o.trans ry);have X3:=aa Jo;clear Jo ry Ip Il Ij abG;go_wp2_with fail;refine(Oc.ej p l8 _ w3 X3.o (by simp[uO,Oc.bF]) HF.o.l8).mono ?_;rintro en w4 ⟨⟨u,rfl⟩,Jn,ru⟩;have SF:w4.cell? ⟨b,0,none⟩=some (.int .u64 (gen:Nat)):=(ru.cells AE ib 0).trans Io;have SE:w4.cell? ⟨b,1,none⟩=some (.int .u64 (l8:Nat)):=(ru.cells AE ib 1).trans Ik;have SC:w4.cell? ⟨b,2,none⟩=some (.int .i64 (len:Nat)):=(ru.cells AE ib 2).trans Ii;have abE:w4.cell? ⟨b,3,none⟩=some (.int .u32 (sum:Nat)):=(ru.cells AE ib 3).trans abF;have Ko:=aa (Ps.o.trans ru);have X2:=aa Jn;clear Jn ru Io Ik Ii abF;go_wp2_with fail;refine(Oc.cY p len _ w4 X2.o (by simp[uO,Oc.bF]) (by have:=HF.o.len;simp only at this;omega)).mono ?_;rintro en w5 ⟨⟨u,rfl⟩,Jm,vZ⟩;have alO:w5.cell? ⟨b,0,none⟩=some (.int .u64 (gen:Nat)):=(vZ.cells Fj ib 0).trans SF;have alN:w5.cell? ⟨b,1,none⟩=some (.int .u64 (l8:Nat)):=(vZ.cells Fj ib 1).trans SE;have alM:w5.cell? ⟨b,2,none⟩=some (.int .i64 (len:Nat)):=(vZ.cells Fj ib 2).trans SC;have alL:w5.cell? ⟨b,3,none⟩=some (.int .u32 (sum:Nat)):=(vZ.cells Fj ib 3).trans abE;have Pr:=aa (Ko.o.trans vZ);have X1:=aa Jm;clear Jm vZ SF SE SC abE;go_wp2_with fail;refine(Oc.cY p sum _ w5 X1.o (by simp[uO,Oc.bF]) HF.o.sum).mono ?_;rintro en w6 ⟨⟨u,rfl⟩,Jl,Jr⟩;have Kn:=aa (Pr.o.trans Jr);have XZ:=aa Jl;clear Jl Jr;go_wp2_with fail;have og:eG w6 p (uN ⟨gen,l8,len,sum⟩):=by have:=XZ.o;exact this
 have hh:=uM ⟨gen,l8,len,sum⟩;have hpn:w.heap.size≤p:=by have h1:=HB.o;have h2:=HP.o;omega
 have ht6:cj w6:=(HT.o.ai bz.o).cO Kn.o (fun e=>TL);refine(Oc.lQ p _ w6 og aj).mono ?_;rintro en w6b ⟨A6,c6,rfl,yV,_,_,_,mY⟩;have tC:=aa (Oc.fZ.bs (w:=w6) yV);have HW6:=aa (og.ai mY);have vy:=aa (ht6.ai mY);have ij:=aa mY;have HPN:=aa hpn;clear og ht6 yV mY hpn;go_wp2_with fail;refine ag (Cr.qG _ A6 c6 w6b tC.o vy.o (by rw[hh];decide)) ?_;clear hh;go_wp2_with fail;have Y4:(uN ⟨gen,l8,len,sum⟩).length≤67108900:=by rw[uM];decide
 refine(cY p _ _ w6b HW6.o Y4 (Cr.MM 0 _ aN)).mono ?_;rintro en w7 ⟨⟨u7,rfl⟩,wQ,ht7⟩;have agV:eG w7 p (H7 ⟨gen,l8,len,sum⟩):=wQ;have Pp:=aa agV;have HT7:=aa ht7;clear wQ ht7 agV Y4;go_wp2_with fail;refine(Oc.lQ p _ w7 Pp.o (by rw[mW];decide)).mono ?_;rintro en w8 ⟨A8,c8,rfl,O5,hc8,hf8,_,mX⟩;have h1:aI (· =p) w1 w8:=(((Kn.o.ak ij.o).trans HT7.o).ak mX);have vw:Below w.heap.size w w8:=h1.fresh bz.o (fun k e=>by have:=HPN.o;omega);have hlen:=mW ⟨gen,l8,len,sum⟩;have Gt:=aa (show adj ⟨gen,l8,len,sum⟩ w (.returned (.tuple #[.slice A8 32 c8,.int .i64 0])) w8 from⟨A8,c8,rfl,Oc.fZ.bs (w:=w7) O5,vw,by rw[hlen] at hc8;exact hc8,fun g off e=>aT (aT (aT bz.o.size Kn.o.size) (aT ij.o.size HT7.o.size)) (hf8 g off e).1⟩);rw[hlen];clear h1 vw hlen O5 hc8 hf8 mX;go_wp2_with fail;go_ret2;exact Gt.o
end En
end
section
namespace En
theorem a8: (af.info? 129).map (·.size)=some 4:=br
def XW(b:By)(w:World)(e:Ending)(w':World): Prop:=
 (∃ er:Int,e= .returned (.tuple #[.agg (oc ((BR b).getD Hd.zero)),.int .i64 er])∧(er=0↔(BR b).isSome=true))∧Below w.heap.size w w'
theorem cB(h:Hd): (oc h).all (·.oneCell')=true:=by simp[oc,Value.oneCell']
theorem J8(b:By)(A:Option Addr)(c:Nat)(w:World)(hs:b.length<32): Calls af 364 #[.slice A b.length c] w (XW b w):=by
 have hr:BR b=none:=by unfold BR;rw[if_pos hs]
 have hs':(b.length:Int)<32:=aj;obtain⟨n,hn⟩:=ae b.length;rw[hn] at hs hs' ⊢;have HR:=aa hr;clear hr hn;obtain⟨w1,aZ⟩:=ae (w.alloc (.cells #[.int .u64 0,.int .u64 0,.int .i64 0,.int .u32 0] 129));obtain⟨r,vr⟩:=ae w.heap.size;have hb1:=aL aZ;have ha1:=aK aZ vr;have sN:=aa aZ;have uq:=aa vr;have bz:=aa hb1;have dz:=aa ha1;clear hb1 ha1;go_enter Tryz.func364,Tryz.ntmps364;go_wp2_with (first|(refine ah rfl 129 _ _ rfl r 129 _ #[.int .u64 0,.int .u64 0,.int .i64 0,.int .u32 0] dz.o rfl rfl rfl a8 (cB Hd.zero) ?_;intro w3 dD hg3 hs3;have pB:=aa dD;have Aa:=aa hg3;clear dD hg3 hs3));refine bodyPost_ret (results_cell_tmp Aj _ im (aJ 129 pB.o _ cq rfl a8)) rfl ⟨⟨4,?_,?_⟩,bn bz.o Aa.o Bg⟩
 ·rw[HR.o];rfl
 rw[HR.o];simp
theorem aeX(b:By)(h:32≤b.length): BR b=if val (((((((b.take 32).drop 4).drop 8).drop 8).drop 4).drop 4).take 4)=ic 0 (b.take 28)∧(b.take 32).take 4=uO then
  (if Hd.may ⟨val (((b.take 32).drop 4).take 8),val ((((b.take 32).drop 4).drop 8).take 8),val (((((b.take 32).drop 4).drop 8).drop 8).take 4),val ((((((b.take 32).drop 4).drop 8).drop 8).drop 4).take 4)⟩=true then
   some ⟨val (((b.take 32).drop 4).take 8),val ((((b.take 32).drop 4).drop 8).take 8),val (((((b.take 32).drop 4).drop 8).drop 8).take 4),val ((((((b.take 32).drop 4).drop 8).drop 8).drop 4).take 4)⟩else none)else none:=by
 unfold BR;rw[if_neg aj];simp[aeY,List.drop_take,List.take_take,List.drop_drop];by_cases hh:val (G8 4 (List.drop 28 b))=ic 0 (G8 28 b)∧G8 4 b=uO
 ·rw[if_pos hh,if_pos hh];first|rfl|congr
 ·rw[if_neg hh,if_neg hh]
theorem WY{W:World}{g c:Nat}{bs:By}(h:jN W 5 g bs): (convert 34 9 (.slice (some ⟨g,0,none⟩) bs.length c)).run af W= .ok (.string ⟨bs.toArray⟩) W:=
 run_convert_bytes_back (P:=af) W 34 9 5 ⟨g,0,none⟩ c bs Tryz.underlying34 Tryz.underlying5 Tryz.underlying9 (by
  intro j hj;rw[qF];exact h.cell hj)
theorem MW(b:By)(g off c:Nat)(w:World)(hs:32≤b.length)(hB:Bs w (some ⟨g,off,none⟩) b)(hl:b.length≤268435456)(hc:b.length≤c)(ht:cj w): Calls af 364 #[.slice (some ⟨g,off,none⟩) b.length c] w (XW b w):=by
 have hs': ¬(b.length:Int)<32:=aj;have akd:(32:Int)≤(b.length:Int):=aj;have hc':(b.length:Int)≤(c:Int):=aj;have amA:(32:Int)≤(c:Int):=aj;have amB:(28:Int)≤(c:Int):=aj;have akm:(28:Int)≤(b.length:Int):=aj;obtain⟨n,hn⟩:=ae b.length;have Ib:(b.take 32).length=32:=EU;have HB:=aa hB;have HT:=aa ht;have HN:=aa hn;have SA:=aa Ib;rw[hn] at hs hs' akd hc hc' hl akm ⊢;clear hB ht hn Ib;obtain⟨w1,aZ⟩:=ae (w.alloc (.cells #[.int .u64 0,.int .u64 0,.int .i64 0,.int .u32 0] 129));obtain⟨r,vr⟩:=ae w.heap.size;have hb1:=aL aZ;have ha1:=aK aZ vr;have Cw:=za (b.take 32) (some ⟨g,off,none⟩) c w1 ((HB.o.take 32).ai hb1) (cI _ _) (by rw[SA.o];decide);rw[SA.o] at Cw;have Cw:=aa Cw;have sN:=aa aZ;have uq:=aa vr;have bz:=aa hb1;have dz:=aa ha1;clear hb1 ha1;go_enter Tryz.func364,Tryz.ntmps364;go_wp2_with fail;refine Cw.o.mono ?_;rintro e w2 ⟨p,q,rfl,fE,hpw,hqw,hb2⟩;have MA:Below w.heap.size w w2:=av bz.o hb2;have iZ:=dz.js hb2;have cu:=aa MA;have HP:=aa hpw;have HQ:=aa hqw;have nh:=aa fE;have HRL:=aa dz.o.lt;clear fE hpw hqw hb2 MA Cw;go_wp2_with fail;refine(Kb p q 4 (b.take 32) 0 w2 nh.o aN).mono ?_;rintro e w3 ⟨A3,c3,rfl,cL,KN,fE,CN⟩;rw[qZ (by rw[SA.o];decide)] at cL fE;simp only at cL fE;have h4:((b.take 32).take 4).length=4:=by rw[gU,SA.o];decide
 obtain⟨g3,rfl,hg3,WD⟩:=cL (by intro e;rw[e] at h4;simp at h4);have hcv:=WY (c:=c3) WD;rw[h4] at hcv;rw[qZ (by rw[SA.o];decide)];simp only;rw[h4];obtain⟨g4,hg4⟩:=ae ((b.take 32).take 4);rw[hg4] at hcv;have ve:=aa hg4;have aiZ:=aa fE;have jF:=aa CN;have hL0:((b.take 32).drop 4).length=28:=by rw[tF,SA.o]
 obtain⟨L0,afb⟩:=ae ((b.take 32).drop 4);rw[afb] at aiZ hL0;have HL0:=aa hL0;have HE0:=aa afb;obtain⟨isg,aak⟩:=ae ((g4== [71,65,78,71]));have HIS:=aa aak;clear cL KN fE CN h4 WD hg3 hg4 nh hL0 afb;go_wp2_with fail;refine(iu p q L0 0 w3 aiZ.o).mono ?_;rintro e w4 ⟨rfl,fE,ht⟩;rw[qZ (by rw[HL0.o];decide)] at fE ⊢;simp only at fE ⊢;obtain⟨v0,hv⟩:=ae (val (L0.take 8));rw[hv];have Jq:v0<256 ^ 8:=N0;have hL:(L0.drop 8).length=20:=by rw[tF,HL0.o]
 obtain⟨L1,ME⟩:=ae (L0.drop 8);rw[ME] at fE hL;have hvi:(v0:Int)<256 ^ 8:=by exact_mod_cast Jq
 have M9:=aa fE;have nX:=aa (jF.o.trans ht);have Yj:=aa hL;have HV0:=aa hv;have vA:=aa ME;have amW:=aa Jq;clear fE ht hL hv ME Jq hvi;go_wp2_with fail;refine(iu p q L1 0 w4 M9.o).mono ?_;rintro e w5 ⟨rfl,fE,ht⟩;rw[qZ (by rw[Yj.o];decide)] at fE ⊢;simp only at fE ⊢;obtain⟨v1,hv⟩:=ae (val (L1.take 8));rw[hv];have Jq:v1<256 ^ 8:=N0;have hL:(L1.drop 8).length=12:=by rw[tF,Yj.o]
 obtain⟨L2,ME⟩:=ae (L1.drop 8);rw[ME] at fE hL;have hvi:(v1:Int)<256 ^ 8:=by exact_mod_cast Jq
 have alm:=aa fE;have px:=aa (nX.o.trans ht);have Ss:=aa hL;have HV1:=aa hv;have wW:=aa ME;have amV:=aa Jq;clear fE ht hL hv ME Jq hvi;go_wp2_with fail;refine(gC p q L2 0 w5 alm.o).mono ?_;rintro e w6 ⟨rfl,fE,ht⟩;rw[qZ (by rw[Ss.o];decide)] at fE ⊢;simp only at fE ⊢;obtain⟨v2,hv⟩:=ae (val (L2.take 4));rw[hv];have Jq:v2<256 ^ 4:=N0;have hL:(L2.drop 4).length=8:=by rw[tF,Ss.o]
 obtain⟨L3,ME⟩:=ae (L2.drop 4);rw[ME] at fE hL;have hvi:(v2:Int)<256 ^ 4:=by exact_mod_cast Jq
 have alk:=aa fE;have vy:=aa (px.o.trans ht);have HL3:=aa hL;have HV2:=aa hv;have Ks:=aa ME;have ak8:=aa Jq;clear fE ht hL hv ME Jq hvi;have hv2:(v2:Int)<4294967296:=by have:=ak8.o;omega
 have al4:(0:Int)≤(v2:Int):=aj;go_wp2_with fail;refine(gC p q L3 0 w6 alk.o).mono ?_;rintro e w7 ⟨rfl,fE,ht⟩;rw[qZ (by rw[HL3.o];decide)] at fE ⊢;simp only at fE ⊢;obtain⟨v3,hv⟩:=ae (val (L3.take 4));rw[hv];have Jq:v3<256 ^ 4:=N0;have hL:(L3.drop 4).length=4:=by rw[tF,HL3.o]
 obtain⟨L4,ME⟩:=ae (L3.drop 4);rw[ME] at fE hL;have hvi:(v3:Int)<256 ^ 4:=by exact_mod_cast Jq
 have abc:=aa fE;have HT7:=aa (vy.o.trans ht);have HL4:=aa hL;have HV3:=aa hv;have RM:=aa ME;have amU:=aa Jq;clear fE ht hL hv ME Jq hvi;go_wp2_with fail;obtain⟨v4,hv4⟩:=ae (val (L4.take 4));obtain⟨CR,hCR⟩:=ae (ic 0 (b.take 28));have hres:BR b=if v4=CR∧g4=uO then(if Hd.may ⟨v0,v1,v2,v3⟩=true then some ⟨v0,v1,v2,v3⟩else none)else none:=by rw[aeX b (by rw[HN.o];exact hs),HE0.o,vA.o,wW.o,Ks.o,RM.o,HV0.o,HV1.o,HV2.o,HV3.o,hv4,hCR,ve.o]
 have aak:isg=decide (g4=uO):=by rw[←HIS.o,Bool.eq_iff_iff,beq_iff_eq,decide_eq_true_iff];rfl
 obtain⟨sy,hhb⟩:=ae w7.heap.size;obtain⟨w8,hw8⟩:=ae (w7.alloc (.cells #[.int .u64 (v0:Nat),.int .u64 (v1:Nat),.int .i64 (v2:Nat),.int .u32 (v3:Nat)] 129));have mX:=aL hw8;have ha8:aG w8 sy 129 (oc ⟨v0,v1,v2,v3⟩):=by rw[←hw8,←hhb];exact aG.fresh w7 _ _
 have Wx:aI (· =q) w2 w8:=HT7.o.ak mX;have hqr:r≠q:=fun e=>Lz
 have ah9:aG w8 r 129 #[.int .u64 0,.int .u64 0,.int .i64 0,.int .u32 0]:=Wx.arr iZ.o hqr;have abb:=aa (show jU w8 p q L4 0 from⟨abc.o.own.ai mX,abc.o.rest.ai mX⟩);have ah8:Bs w8 (some ⟨g,off,none⟩) b:=(HB.o.ai cu.o).cO Wx fun g' o' e hlt hq=>by
  injection e with e;injection e with e
  have h1:g<w.heap.size:=Tb;have h2:=HQ.o;have h3:=bz.o.size;omega
 have CQ:w.heap.size≤q:=aT bz.o.size HQ.o;have hT8:cj w8:=(HT.o.ai cu.o).cO Wx (fun e=>TL);rw[hw8,hhb];have afQ:=aa hres;have ai6:=aa aak;have py:=aa mX;have zE:=aa ha8;have aiI:=aa Wx;have ajB:=aa ah9;have ajv:=aa ah8;have ads:=aa hT8;have HV4:=aa hv4;have Zu:=aa hCR;have HQW:=aa CQ;have HHB:=aa hhb;clear hres aak mX ha8 Wx hqr ah9 ah8 hT8 hv4 hCR CQ hhb hw8;by_cases mA:v4=CR
 ·have ky:((v4:Int) != (CR:Int))=false:=by simp[mA]
  have Dj:(v4 != CR)=false:=xe;refine wp_region_held_drew (S:=(fun _=>True)) br oU (fun hHeld=>?_);refine SX 0 2 3 ?_;refine cG 1 fun K hK=>?_
  go_simp;refine(gC p q L4 0 w8.drew (show jU w8.drew p q L4 0 from⟨abb.o.own.ai (az (au _ _)),abb.o.rest.ai (az (au _ _))⟩)).mono ?_;rintro e w9 ⟨rfl,fE,ht⟩;rw[qZ (by rw[HL4.o];decide)];simp only;rw[HV4.o];have ht9:aI (· =q) w8 w9:=⟨ht.os,ht.tape,ht.output,ht.size,ht.block⟩;have EB:=aa ht9;clear fE ht ht9;go_wp2_with fail;refine bW hK oU fun sD=>?_
  clear hK K;refine cG 4 fun K hK=>?_
  go_simp;have hB9:Bs w9 (some ⟨g,off,none⟩) (b.take 28):=(ajv.o.cO EB.o fun g' o' e hlt hq=>by
   injection e with e;injection e with e
   have h1:g<w.heap.size:=Tb;have h2:=HQW.o;omega).take 28
  have h28:(b.take 28).length=28:=by rw[gU,HN.o];omega
  have hSM:=Cr.qG (b.take 28) (some ⟨g,off,none⟩) c w9 hB9 (ads.o.cO EB.o (fun e=>TY)) (by rw[h28];decide);rw[h28,Zu.o] at hSM;refine ag hSM ?_;clear hB9 h28 hSM;go_wp2_with fail;refine bW hK oU fun mC=>?_
  clear hK K;refine Qd 5 6 7 8 9 10 ?_;refine bO ?_;have aeO:q<sy:=by
   obtain⟨_,_,h1,_⟩:=abc.o.rest.ex;have h2:=h1.lt;have h3:=HHB.o;omega
  have hqr:r≠q:=fun e=>Lz
  have WG:aG w9 r 129 #[.int .u64 0,.int .u64 0,.int .i64 0,.int .u32 0]:=EB.o.arr ajB.o hqr;have dE:aG w9 sy 129 #[.int .u64 (v0:Nat),.int .u64 (v1:Nat),.int .i64 (v2:Nat),.int .u32 (v3:Nat)]:=EB.o.arr zE.o aj;have WB:Below w.heap.size w w9:=(aiI.o.trans EB.o).fresh cu.o (fun k e=>by have:=HQW.o;omega);have aga:=aa WG;have pz:=aa dE;have af1:=aa WB;have k0:=dE.cl 0;have k1:=dE.cl 1;have k2:=dE.cl 2;have k3:=dE.cl 3;clear aeO hqr WG dE WB;clear ky Dj;cases hi:isg with
  | false=>
   have HNO:=aa (show BR b=none from by rw[afQ.o,if_neg (fun hh=>by have h1:=ai6.o;rw[decide_eq_true hh.2,hi] at h1;cases h1)]);rw[Bool.not_false];clear hi mA;exact acH
  | true=>
   have hgg:g4=uO:=of_decide_eq_true (by rw[←ai6.o,hi]);rw[Bool.not_true];have KV:=Gk ⟨v0,v1,v2,v3⟩ w9;unfold oc at KV;simp only at KV;have afL:=aa (show BR b=if Hd.may ⟨v0,v1,v2,v3⟩=true then some ⟨v0,v1,v2,v3⟩else none from by rw[afQ.o,if_pos ⟨mA,hgg⟩]);obtain⟨my,hmy⟩:=ae (Hd.may ⟨v0,v1,v2,v3⟩);rw[hmy] at KV afL;have KV:=aa KV;clear hmy hgg hi mA;go_wp2_with fail;refine KV.o.mono ?_;rintro e wm ⟨rfl,hbm⟩;have hAm:=pz.o.ai hbm;have l0:=hAm.cl 0;have l1:=hAm.cl 1;have l2:=hAm.cl 2;have l3:=hAm.cl 3;have ajz:=aga.js hbm;have HBM:=aa (show Below w.heap.size w wm from av af1.o hbm);clear hAm hbm;cases my with
   | false=>
    have HNO:=aa (show BR b=none from by rw[afL.o];rfl);go_wp2_with (first|(refine ah rfl 129 _ _ rfl r 129 _ #[.int .u64 0,.int .u64 0,.int .i64 0,.int .u32 0] ajz.o rfl rfl rfl a8 (cB Hd.zero) ?_;intro wz gz eC hsz;have kH:=aa gz;have iw:=aa eC;clear gz eC hsz));refine bodyPost_ret (results_cell_tmp Aj _ im (aJ 129 kH.o _ cq rfl a8)) rfl ⟨⟨2,?_,?_⟩,bn HBM.o iw.o Bg⟩
    ·rw[HNO.o];rfl
    rw[HNO.o];simp
   | true=>
    have ur:=aa (show BR b=some ⟨v0,v1,v2,v3⟩from by rw[afL.o];rfl);go_wp2_with (first|(refine ah rfl 129 _ _ rfl r 129 _ #[.int .u64 (v0:Nat),.int .u64 (v1:Nat),.int .i64 (v2:Nat),.int .u32 (v3:Nat)] ajz.o rfl rfl rfl a8 (cB ⟨v0,v1,v2,v3⟩) ?_;intro wz gz eC hsz;have kH:=aa gz;have iw:=aa eC;clear gz eC hsz));refine bodyPost_ret (results_cell_tmp Aj _ im (aJ 129 kH.o _ cq rfl a8)) rfl ⟨⟨0,?_,?_⟩,bn HBM.o iw.o Bg⟩
    ·rw[ur.o];rfl
    rw[ur.o];simp
 have ky:((v4:Int) != (CR:Int))=true:=fV;have Dj:(v4 != CR)=true:=xe;refine wp_region_held_drew (S:=(fun _=>True)) br oU (fun hHeld=>?_);refine SX 0 2 3 ?_;refine cG 1 fun K hK=>?_
 go_simp;refine(gC p q L4 0 w8.drew (show jU w8.drew p q L4 0 from⟨abb.o.own.ai (az (au _ _)),abb.o.rest.ai (az (au _ _))⟩)).mono ?_;rintro e w9 ⟨rfl,fE,ht⟩;rw[qZ (by rw[HL4.o];decide)];simp only;rw[HV4.o];have ht9:aI (· =q) w8 w9:=⟨ht.os,ht.tape,ht.output,ht.size,ht.block⟩;have EB:=aa ht9;clear fE ht ht9;go_wp2_with fail;refine bW hK oU fun sD=>?_
 clear hK K;refine cG 4 fun K hK=>?_
 go_simp;have hB9:Bs w9 (some ⟨g,off,none⟩) (b.take 28):=(ajv.o.cO EB.o fun g' o' e hlt hq=>by
  injection e with e;injection e with e
  have h1:g<w.heap.size:=Tb;have h2:=HQW.o;omega).take 28
 have h28:(b.take 28).length=28:=by rw[gU,HN.o];omega
 have hSM:=Cr.qG (b.take 28) (some ⟨g,off,none⟩) c w9 hB9 (ads.o.cO EB.o (fun e=>TY)) (by rw[h28];decide);rw[h28,Zu.o] at hSM;refine ag hSM ?_;clear hB9 h28 hSM;go_wp2_with fail;refine bW hK oU fun mC=>?_
 clear hK K;refine Qd 5 6 7 8 9 10 ?_;refine bO ?_;have aeO:q<sy:=by
  obtain⟨_,_,h1,_⟩:=abc.o.rest.ex;have h2:=h1.lt;have h3:=HHB.o;omega
 have hqr:r≠q:=fun e=>Lz
 have WG:aG w9 r 129 #[.int .u64 0,.int .u64 0,.int .i64 0,.int .u32 0]:=EB.o.arr ajB.o hqr;have dE:aG w9 sy 129 #[.int .u64 (v0:Nat),.int .u64 (v1:Nat),.int .i64 (v2:Nat),.int .u32 (v3:Nat)]:=EB.o.arr zE.o aj;have WB:Below w.heap.size w w9:=(aiI.o.trans EB.o).fresh cu.o (fun k e=>by have:=HQW.o;omega);have aga:=aa WG;have pz:=aa dE;have af1:=aa WB;have k0:=dE.cl 0;have k1:=dE.cl 1;have k2:=dE.cl 2;have k3:=dE.cl 3;clear aeO hqr WG dE WB;have HNO:=aa (show BR b=none from by rw[afQ.o,if_neg (fun hh=>mA hh.1)]);exact acH
theorem Xt(b:By)(A:Option Addr)(c:Nat)(w:World)(hB:Bs w A b)(hl:b.length≤268435456)(hc:b.length≤c)(ht:cj w): Calls af 364 #[.slice A b.length c] w (XW b w):=by
 by_cases hs:b.length<32
 ·exact J8 b A c w hs
 obtain⟨g,off,rfl,_⟩:=hB (by intro e;rw[e] at hs;simp at hs);exact MW b g off c w aj hB hl hc ht
end En
end
section
namespace En
theorem Ol(g:Rg): ∀ (ps:List Piece) (d:bK) (acc:By),(∀ x∈ps,x.f<x.t∧x.t≤d.dk.size)→(Hs g d ps acc).2.1.length≤acc.length+Qe ps
 | [],d,acc,_=>aQ _
 | x::ps,d,acc,h=>by
  rw[Hs,Qe];have hx:=h x (List.mem_cons_self ..);split
  ·have h1:=Ol g ps (d.read (g.from_+x.s:Nat)).2.2 (acc++((d.read (g.from_+x.s:Nat)).2.1.take x.t).drop x.f) (fun y hy=>by rw[bK.lK];exact h y (List.mem_cons_of_mem _ hy));have h2:(((d.read (g.from_+x.s:Nat)).2.1.take x.t).drop x.f).length≤x.t - x.f:=by rw[tF,gU];omega
   rw[List.length_append] at h1;omega
  exact Nat.zero_le _
theorem Rg.rX(g:Rg)(d:bK)(at_ n:Nat)(hs:1≤d.dk.size): (g.read d at_ n).2.1.length≤n:=by
 unfold Rg.read;split
 ·exact Nat.zero_le _
 have h1:=Ol g (pieces d.dk.size (n:Int).toNat (at_:Int).toNat (n:Int).toNat) d [] (fun x hx=>pM _ hs _ _ _ (aQ _) x hx);rw[nI _ hs _ _ _ (aQ _),Int.toNat_natCast] at h1;simpa using h1
def Kk(S:Nat→Prop)(p:Nat)(R:Int × Hd × bK)(w:World)(e:Ending)(w':World): Prop:=e= .returned (.tuple #[.agg (oc R.2.1),.int .i64 R.1])∧dF p R.2.2 S w'∧aI S w w'
theorem J7{S:Nat→Prop}{w:World}{r p:Nat}{g:Rg}{d:bK}(h:fT w r p g d.dk.size)(hD:dF p d S w)(hr: ¬S r)(ht:cj w)(QT: ¬S 1):
  Calls af 334 #[.agg #[.pointer (some ⟨r,0,none⟩)]] w (Kk S p (cX g d) w):=by
 obtain⟨bx,mh⟩:=ae w.heap.size;obtain⟨w0,hw0⟩:=ae (w.alloc (.cells #[.pointer (some ⟨r,0,none⟩)] 90));obtain⟨rr,vr⟩:=ae w0.heap.size;obtain⟨w1,aZ⟩:=ae (w0.alloc (.cells #[.int .u64 0,.int .u64 0,.int .i64 0,.int .u32 0] 129));have hb0:=aL hw0;have zt:=aL aZ;have hb1:Below w.heap.size w w1:=av hb0 zt;have ha0:=aK hw0 mh;have ha1:=ha0.ai zt;have ha2:=aK aZ vr;have hr1:bx+1=rr:=by rw[←vr,←hw0,←mh];simp only[World.alloc,Array.size_push]
 have x1:=ha1.cl 0;have hSl:=(aD p d).lt hD;have ahk: ¬S bx:=fun hs=>by have:=hSl _ hs;omega
 have ahh: ¬S rr:=fun hs=>by have:=hSl _ hs;omega
 obtain⟨er,o7⟩:=ae ((g.read d (0:Nat) d.dk.size).1);obtain⟨bs,tO⟩:=ae ((g.read d (0:Nat) d.dk.size).2.1);obtain⟨d1,Wp⟩:=ae ((g.read d (0:Nat) d.dk.size).2.2);have fE:g.read d ((0:Nat):Int) d.dk.size=(er,bs,d1):=by rw[←o7,←tO,←Wp]
 have hlen:bs.length≤d.dk.size:=by rw[←tO];exact g.rX d 0 d.dk.size hD.ok.size.1
 have aag:cX g d=if er=0 then(0,(match BR bs with|some h=>if h.len≤g.bytes d.dk.size - d.dk.size then h else Hd.zero|none=>Hd.zero),d1)else(er,Hd.zero,d1):=by
  unfold cX;rw[show(g.read d 0 d.dk.size)=(er,bs,d1)from fE];try rfl
 obtain⟨R,hR⟩:=ae (cX g d);rw[hR] at aag ⊢;have hsz:=hD.ok.size;have ze:=aa fun(W:World) (hW:Below w.heap.size w W)=>kC (h.ai hW)
 have uq:=aa fun(W:World) (hW:Below w.heap.size w W)=>Kd (h.ai hW) ((aD p d).ak hD hW) hr 0 d.dk.size aN aj
 rw[fE] at uq;obtain⟨size,hsize⟩:=ae d.dk.size;have HH:=aa h;have HD:=aa hD;rw[hsize] at ze uq hlen aag hsz HH;have abe:=aa aag;have vd:=aa hlen;have bz:=aa hb1;have dz:=aa ha1;have iZ:=aa ha2;have X6:=aa hw0;have sN:=aa aZ;have yr:=aa mh;have wT:=aa hr1;have HNB:=aa ahk;have Sn:=aa ahh;have HT:=aa ht;have HTS:=aa QT;have oO:=aa hr;have mi:=aa hsz;have pY:=aa hSl;clear hsize h hD hr ht QT hb0 zt hb1 ha0 ha1 ha2 hr1 hSl ahk ahh o7 tO Wp fE hlen aag hR hsz hw0 aZ vr mh;go_enter Tryz.func334,Tryz.ntmps334;go_wp2_with fail;rw[X6.o,sN.o,yr.o,wT.o];refine ud (S:=(fun w'=>w'.cell? ⟨bx,0,none⟩=some (.pointer (some ⟨r,0,none⟩)))) (by exact x1) fun hHeld=>?_
 refine lu 0 1 2 3 ?_;refine cG 4 fun K hK=>?_
 go_simp;refine ag (ze.o w1.drew (az bz.o)) ?_;go_wp2_with fail;refine bW hK (by exact x1) fun mC=>?_
 clear hK K;refine cG 5 fun K hK=>?_
 go_simp;refine(uq.o w1.drew (az bz.o)).mono ?_;rintro e w2 ⟨⟨A,c,rfl,hblk,hc⟩,MG,uh⟩;have q1:w2.cell? ⟨bx,0,none⟩=some (.pointer (some ⟨r,0,none⟩)):=(World.cell?_of_block (a:=⟨bx,0,none⟩) (uh.block bx dz.o.lt HNB.o)).trans x1;have fC:=aa hblk;have HC:=aa hc;have jG:=aa MG;have gh:=aa (show aI S w w2 from(aI.aU bz.o).trans ⟨uh.os,uh.tape,uh.output,uh.size,uh.block⟩);have ajD:=aa (show aG w2 rr 129 #[.int .u64 0,.int .u64 0,.int .i64 0,.int .u32 0] from(uh.block rr iZ.o.lt Sn.o).trans iZ.o);clear hblk hc MG uh;go_wp2_with fail;refine bW hK (by exact q1) fun jt=>?_
 clear hK K;refine lu 6 7 8 9 ?_;refine ty 10 ?_;refine bO ?_;by_cases h0:er=0
 ·subst h0;have Cv:=aa (show R=(0,(match BR bs with|some h=>if h.len≤g.bytes size - size then h else Hd.zero|none=>Hd.zero),d1)from by rw[abe.o,if_pos rfl]);have HSR:=aa (Xt bs A c w2 (fun hn=>by obtain⟨g',rfl,_,hb⟩:=fC.o hn;exact hb.bs hn) (by have h1:=vd.o;have h2:=mi.o;omega) HC.o (HT.o.cO gh.o HTS.o));clear abe;go_wp2_with fail;refine HSR.o.mono ?_;rintro e w3 ⟨⟨er2,rfl,ahx⟩,hb3⟩;obtain⟨hh,hhh⟩:=ae ((BR bs).getD Hd.zero);rw[hhh];have s1:w3.cell? ⟨bx,0,none⟩=some (.pointer (some ⟨r,0,none⟩)):=(hb3.cell (p:=⟨bx,0,none⟩) (bD _ _ q1)).trans q1;have HHH:=aa hhh;have ai7:=aa ahx;have dV:=aa hb3;have pB:=ajD.js hb3;have pA:=aa (aG.fresh w3 129 #[.int .u64 0,.int .u64 0,.int .i64 0,.int .u32 0]);clear hhh ahx hb3 HSR;go_wp2_with (first|(refine ah rfl 129 _ _ rfl w3.heap.size 129 _ (oc hh) pA.o rfl rfl rfl a8 (cB hh) ?_;intro w5 fX ft hs5;have ou:=aa fX;have oP:=aa ft;clear fX ft hs5));obtain⟨hk,hhk⟩:=ae w3.heap.size;have aas:Below w3.heap.size w3 w5:=bn (ax (au _ _) _) oP.o (aQ _);have fX:aG w5 hk 129 (oc hh):=by rw[←hhk];exact ou.o
  rw[hhk];have t1:w5.cell? ⟨bx,0,none⟩=some (.pointer (some ⟨r,0,none⟩)):=(aas.cell (p:=⟨bx,0,none⟩) (bD _ _ s1)).trans s1;have k0:w5.cell? ⟨hk,0,none⟩=some (.int .u64 (hh.gen:Nat)):=fX.cell 0;have k1:w5.cell? ⟨hk,1,none⟩=some (.int .u64 (hh.l8:Nat)):=fX.cell 1;have k2:w5.cell? ⟨hk,2,none⟩=some (.int .i64 (hh.len:Nat)):=fX.cell 2;have k3:w5.cell? ⟨hk,3,none⟩=some (.int .u32 (hh.sum:Nat)):=fX.cell 3;have agd:=pB.js aas;have RS:=aa (show Below w2.heap.size w2 w5 from av dV.o aas);clear aas fX ou oP pA hhk;by_cases hz:er2=0
  ·subst hz;obtain⟨h',hh'⟩: ∃ h',BR bs=some h':=Option.isSome_iff_exists.1 (ai7.o.1 rfl);have hhe:hh=h':=by rw[←HHH.o,hh'];rfl
   have hby:=HH.o.eQ;have uZ:=aa fun(W:World) (hW:aI S w W)=>nC (HH.o.cO hW oO.o)
   have HRZ:=aa fun(W:World) (hW:aI S w W)=>kC (HH.o.cO hW oO.o)
   obtain⟨B,hB⟩:=ae (g.bytes size);have hBs:size≤B:=by rw[←hB];unfold Rg.bytes;exact Nat.le_mul_of_pos_left _ HH.o.count.1
   obtain⟨m,hm⟩:=ae (B - size);have hbm:(B:Int) - (size:Int)=(m:Int):=aj;have xZ:(m:Int)≤268435456:=aj;have hwm:IntKind.i64.wrap ((m:Nat):Int)=((m:Nat):Int):=IntWalk.i64_in _ aj;rw[hB] at uZ;have Kq:=aa (show R=(0,(if hh.len≤m then hh else Hd.zero),d1)from by rw[Cv.o,hh',hB,hm,hhe]);clear hh' hhe hby hB hBs hm Cv;obtain⟨ln,hln⟩:=ae hh.len;rw[hln] at k2 Kq;have HLN:=aa hln;clear hln;by_cases hle:ln≤m
   ·have hlm: ¬(m:Int)<(ln:Int):=by omega
    have Cv:=aa (show R=(0,hh,d1)from by rw[Kq.o,if_pos hle]);clear Kq hle;refine wp_region_held_drew (S:=(fun w'=>w'.cell? ⟨bx,0,none⟩=some (.pointer (some ⟨r,0,none⟩))∧w'.cell? ⟨hk,2,none⟩=some (.int .i64 (ln:Nat)))) br (by exact⟨t1,k2⟩) (fun hHeld=>?_);refine ov 0 1 2 3 4 5 6 8 ?_;refine ty 9 ?_;refine cG 7 fun K hK=>?_
    go_simp;refine(uZ.o w5.drew ((gh.o.ak RS.o).ak (az (au _ _)))).mono ?_;rintro e w6 ⟨rfl,mY⟩;have sA:Below w5.heap.size w5 w6:=av (az (au _ _)) mY;have u1:w6.cell? ⟨bx,0,none⟩=some (.pointer (some ⟨r,0,none⟩)):=(sA.cell (p:=⟨bx,0,none⟩) (bD _ _ t1)).trans t1;have u2:w6.cell? ⟨hk,2,none⟩=some (.int .i64 (ln:Nat)):=(sA.cell (p:=⟨hk,2,none⟩) (bD _ _ k2)).trans k2;have u0:w6.cell? ⟨hk,0,none⟩=some (.int .u64 (hh.gen:Nat)):=(sA.cell (p:=⟨hk,0,none⟩) (bD _ _ k0)).trans k0;have u4:w6.cell? ⟨hk,1,none⟩=some (.int .u64 (hh.l8:Nat)):=(sA.cell (p:=⟨hk,1,none⟩) (bD _ _ k1)).trans k1;have u3:w6.cell? ⟨hk,3,none⟩=some (.int .u32 (hh.sum:Nat)):=(sA.cell (p:=⟨hk,3,none⟩) (bD _ _ k3)).trans k3;have tC:=agd.js sA;have Np:=aa (show Below w2.heap.size w2 w6 from av RS.o sA);clear mY sA;go_wp2_with fail;refine bW hK ES fun o9=>?_
    clear hK K;refine cG 10 fun K hK=>?_
    go_simp;refine ag (HRZ.o w6 (gh.o.ak Np.o)) ?_;go_wp2_with fail;refine bW hK ES fun Gd=>?_
    clear hK K;refine SX 11 12 13 ?_;refine bO ?_;go_wp2_with (first|(refine ah rfl 129 _ _ rfl rr 129 _ #[.int .u64 (hh.gen:Nat),.int .u64 (hh.l8:Nat),.int .i64 (ln:Nat),.int .u32 (hh.sum:Nat)] tC.o rfl rfl rfl a8 (by simp[Value.oneCell']) ?_;intro wz gz eC hsz;have kH:=aa gz;have iw:=aa eC;clear gz eC hsz));refine bodyPost_ret (results_cell_tmp Ai _ im (aJ 129 kH.o _ cq rfl a8)) rfl ?_;unfold Kk;rw[Cv.o];have hrw:w.heap.size≤rr:=Fh;have hD9:=(aD p d1).ak jG.o Np.o;have eC:G9 w6 wz (some rr):=⟨iw.o.os,iw.o.tape,iw.o.output,iw.o.size,iw.o.block⟩;refine⟨by rw[←HLN.o];rfl,(aD p d1).same hD9 eC.size (fun k hk=>eC.block k ((aD p d1).lt hD9 k hk) (fun e=>AH)),(gh.o.ak Np.o).grown eC (fun k e=>Fp)⟩
   have hlm:(m:Int)<(ln:Int):=aj;have Cv:=aa (show R=(0,Hd.zero,d1)from by rw[Kq.o,if_neg hle]);clear Kq hle;refine wp_region_held_drew (S:=(fun w'=>w'.cell? ⟨bx,0,none⟩=some (.pointer (some ⟨r,0,none⟩))∧w'.cell? ⟨hk,2,none⟩=some (.int .i64 (ln:Nat)))) br (by exact⟨t1,k2⟩) (fun hHeld=>?_);refine ov 0 1 2 3 4 5 6 8 ?_;refine ty 9 ?_;refine cG 7 fun K hK=>?_
   go_simp;refine(uZ.o w5.drew ((gh.o.ak RS.o).ak (az (au _ _)))).mono ?_;rintro e w6 ⟨rfl,mY⟩;have sA:Below w5.heap.size w5 w6:=av (az (au _ _)) mY;have u1:w6.cell? ⟨bx,0,none⟩=some (.pointer (some ⟨r,0,none⟩)):=(sA.cell (p:=⟨bx,0,none⟩) (bD _ _ t1)).trans t1;have u2:w6.cell? ⟨hk,2,none⟩=some (.int .i64 (ln:Nat)):=(sA.cell (p:=⟨hk,2,none⟩) (bD _ _ k2)).trans k2;have u0:w6.cell? ⟨hk,0,none⟩=some (.int .u64 (hh.gen:Nat)):=(sA.cell (p:=⟨hk,0,none⟩) (bD _ _ k0)).trans k0;have u4:w6.cell? ⟨hk,1,none⟩=some (.int .u64 (hh.l8:Nat)):=(sA.cell (p:=⟨hk,1,none⟩) (bD _ _ k1)).trans k1;have u3:w6.cell? ⟨hk,3,none⟩=some (.int .u32 (hh.sum:Nat)):=(sA.cell (p:=⟨hk,3,none⟩) (bD _ _ k3)).trans k3;have tC:=agd.js sA;have Np:=aa (show Below w2.heap.size w2 w6 from av RS.o sA);clear mY sA;go_wp2_with fail;refine bW hK ES fun o9=>?_
   clear hK K;refine cG 10 fun K hK=>?_
   go_simp;refine ag (HRZ.o w6 (gh.o.ak Np.o)) ?_;go_wp2_with fail;refine bW hK ES fun Gd=>?_
   clear hK K;refine SX 11 12 13 ?_;refine bO ?_;go_wp2_with (first|(refine ah rfl 129 _ _ rfl rr 129 _ #[.int .u64 0,.int .u64 0,.int .i64 0,.int .u32 0] tC.o rfl rfl rfl a8 (cB Hd.zero) ?_;intro wz gz eC hsz;have kH:=aa gz;have iw:=aa eC;clear gz eC hsz));refine bodyPost_ret (results_cell_tmp Ai _ im (aJ 129 kH.o _ cq rfl a8)) rfl ?_;unfold Kk;rw[Cv.o];have hrw:w.heap.size≤rr:=Fh;have hD9:=(aD p d1).ak jG.o Np.o;have eC:G9 w6 wz (some rr):=⟨iw.o.os,iw.o.tape,iw.o.output,iw.o.size,iw.o.block⟩;refine⟨rfl,(aD p d1).same hD9 eC.size (fun k hk=>eC.block k ((aD p d1).lt hD9 k hk) (fun e=>AH)),(gh.o.ak Np.o).grown eC (fun k e=>Fp)⟩
  have tu:(er2 != 0)=true:=by simp[hz]
  have hn:BR bs=none:=by
   have h1:=ai7.o;cases hc:BR bs with
   | none=>rfl
   | some x=>rw[hc] at h1;exact absurd (h1.2 rfl) hz
  have Kq:=Cv;have Cv:=aa (show R=(0,Hd.zero,d1)from by rw[Kq.o,hn]);clear Kq hz hn;refine wp_region_held_drew (S:=(fun _=>True)) br oU (fun hHeld=>?_);refine ov 0 1 2 3 4 5 6 7 ?_;refine Qd 8 9 10 11 12 13 ?_;refine bO ?_;go_wp2_with (first|(refine ah rfl 129 _ _ rfl rr 129 _ #[.int .u64 0,.int .u64 0,.int .i64 0,.int .u32 0] agd.o rfl rfl rfl a8 (cB Hd.zero) ?_;intro wz gz eC hsz;have kH:=aa gz;have iw:=aa eC;clear gz eC hsz));refine bodyPost_ret (results_cell_tmp Ai _ im (aJ 129 kH.o _ cq rfl a8)) rfl ?_;unfold Kk;rw[Cv.o];have hrw:w.heap.size≤rr:=Fh;have hD9:=(aD p d1).ak jG.o RS.o;have eC:G9 w5 wz (some rr):=⟨iw.o.os,iw.o.tape,iw.o.output,iw.o.size,iw.o.block⟩;refine⟨rfl,(aD p d1).same hD9 eC.size (fun k hk=>eC.block k ((aD p d1).lt hD9 k hk) (fun e=>AH)),(gh.o.ak RS.o).grown eC (fun k e=>Fp)⟩
 ·have hq:(er==0)=false:=by simp[h0]
  have Cv:=aa (show R=(er,Hd.zero,d1)from by rw[abe.o,if_neg h0]);clear abe h0;go_wp2_with (first|(refine ah rfl 129 _ _ rfl rr 129 _ #[.int .u64 0,.int .u64 0,.int .i64 0,.int .u32 0] ajD.o rfl rfl rfl a8 (cB Hd.zero) ?_;intro wz gz eC hsz;have kH:=aa gz;have iw:=aa eC;clear gz eC hsz));refine bodyPost_ret (results_cell_tmp Ai _ im (aJ 129 kH.o _ cq rfl a8)) rfl ?_;unfold Kk;rw[Cv.o];have hrw:w.heap.size≤rr:=Fh;refine⟨rfl,(aD p d1).same jG.o iw.o.size (fun k hk=>iw.o.block k ((aD p d1).lt jG.o k hk) (fun e=>AH)),gh.o.grown iw.o (fun k e=>Fp)⟩
