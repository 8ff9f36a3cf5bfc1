import Derived.Test.YtemighjbfanenaaGreatDoorQk40
import Derived.Test.YtemighjbfanenaaGreatDoorRows
import Derived.ProofKit
import Derived.Lib.LaidTab
import Derived.Stop.LaidErr
import Derived.OpenShut
import Derived.ShutString
import Derived.ChangeOld
import Derived.Below
import Derived.ChangeSlices
import Derived.Lib.SmallJoins
import Derived.Deep.Slices
import Derived.Deep.Fields
import Derived.SizedLaws
import Derived.MakeChecks
import Derived.Lay
import Derived.Deep.DeepHandedRow
set_option linter.all false
set_option maxRecDepth 100000
set_option maxHeartbeats 16000000
namespace Go.Proofs.YtemighjbfanenaaGreatDoor
open RowKit
open En (By fp Qe)
open Cr (cj Fc)
open Rf (iM Ng StN jG NS)
open Bool renaming and_eq_true→lX
open Go.DataW renaming trod_int→lW,trod→jg
open Go.Input renaming okWide_of_okWideB→Py
open Go.MakeChecks renaming laidMetH_plain→Pz
open Go.Proofs.Tryz renaming underlying25→Gw,prog→af,underlying3→fx
open Int renaming eq_ofNat_of_zero_le→eo
open List renaming length_map→dZ
section
namespace Kpo
open Go.RowKit Go.ChangeShapes Go.WideShapes Go.ChangeAt Go.Joins Go.Deep
variable{W:World}{n:Int}
theorem Hx{H:Type}{enc:TypeId × Value→H}{C:Checked}{os:Os}{f:FuncId}{fn:Func}{s:OpenSpec}{conds:List PathCond}{apart:Bool}{laid:List (String × DataW Unit)}(modest:Bool)(w0:World)(args:Array Value)(hos:w0.os=os)
  (hv:(w0.forCall (fun _ _=>0) ⟨#[],args,[]⟩).variablesZipB C.prog=true)
  (hr:((w0.forCall (fun _ _=>0) ⟨#[],args,[]⟩).heap.toList.drop C.prog.globals.size).take ((begin C.prog (fun _ _=>0) default).world.heap.size - C.prog.globals.size) =
   (begin C.prog (fun _ _=>0) default).world.heap.toList.drop C.prog.globals.size)
  (fw:Input.okWideB C.prog (w0.forCall (fun _ _=>0) ⟨#[],args,[]⟩) f ⟨#[],args,[]⟩=true)
  (hrow:s.preRow enc C.prog fn conds apart laid (w0.forCall (fun _ _=>0) ⟨#[],args,[]⟩).memory args) :
  ∃ (w:World) (tape:Tape) (i:Input),w.os=os∧(w.forCall tape i).Shaped C.prog∧i.vars= []∧Input.okWide C.prog (w.forCall tape i) .any w.heap.size f i∧
   s.preRow enc C.prog fn conds apart laid (w.forCall tape i).memory i.args∧({modest:=modest}:Assume).holds C.prog (lone (Frame.enter C.prog f i.args .normal) [] (w.forCall tape i)):=
 ⟨w0,fun _ _=>0,⟨#[],args,[]⟩,hos,World.shaped_of_ZipB hv hr,(Py (base:=0) fw).1,(Py fw).2,hrow,by
  simp only[Assume.holds];exact⟨dM,dM,fun _=>Modest.zero,dM,dM⟩⟩
theorem ah6: af.globalNamed "gangway/replies.fields" =some 0:=bh
theorem WA: (af.globals[0]?).map (·.type)=some 349:=bh
theorem aff: af.cellsOf 349=11:=bh
theorem afg: af.cellsOf 3=1:=bh
theorem ah7: af.globalNamed "gangway/crc.table" =some 1:=bh
theorem WB: (af.globals[1]?).map (·.type)=some 483:=bh
theorem afh: af.cellsOf 483=16:=bh
theorem afe: af.cellsOf 39=1:=bh
def Bf: List (String × DataW Unit):=[("gangway/crc.table",Rows.laid_gangway_crc_table),("gangway/replies.fields",Rows.laid_gangway_replies_fields)]
theorem Us: (Bf.all fun x=>x.2.handleName?.isNone)=true:=bh
theorem table(h:laidMetH af Bf W): Lib.TabIs af W "gangway/replies.fields" .i64 [0,5,0,0,2,6,5,4,8,8,8]:=by
 rw[Pz _ _ _ Us] at h;exact Lib.tabIs_of_head (rest:=[]) ah6 WA Tryz.underlying349 fx afg aff h.tail
theorem aeh: ∀ i:Fin 11,([0,5,0,0,2,6,5,4,8,8,8]:List Int).getD i.val 0=(Qe.getD i.val 0:Nat):=aM
theorem tab(h:laidMetH af Bf W): fp W:=fun i hi=>by rw[(table h).cell ah6 i hi,aeh ⟨i,hi⟩]
theorem ajW(h:laidMetH af Bf W): Lib.TabIs af W "gangway/crc.table" .u32 [0,498536548,997073096,651767980,1994146192,1802195444,1303535960,1342533948,3988292384,4027552580,3604390888,3412177804,2607071920,2262029012,2685067896,3183342108]:=by
 rw[Pz _ _ _ Us] at h;exact Lib.tabIs_of_head (rest:=[("gangway/replies.fields",Rows.laid_gangway_replies_fields)]) ah7 WB Tryz.underlying483 Tryz.underlying39 afe afh h
theorem ZA: ∀ i:Fin 16,([0,498536548,997073096,651767980,1994146192,1802195444,1303535960,1342533948,3988292384,4027552580,3604390888,3412177804,2607071920,2262029012,2685067896,3183342108]:List Int).getD i.val 0=(Fc.getD i.val 0:Nat):=aM
theorem ij(h:laidMetH af Bf W): cj W:=fun i hi=>by rw[(ajW h).cell ah7 i hi,ZA ⟨i,hi⟩]
theorem wf_i64(h:(Lit.int .i64 n).wf=true): -9223372036854775808≤n∧n≤9223372036854775807:=by
 simp only[Lit.wf,lX,decide_eq_true_eq] at h;have e1:IntKind.i64.min= -9223372036854775808:=aM;have e2:IntKind.i64.max=9223372036854775807:=aM;rw[e1,e2] at h;exact h
theorem wf_u32(h:(Lit.int .u32 n).wf=true): 0≤n∧n<4294967296:=by
 simp only[Lit.wf,lX,decide_eq_true_eq] at h;have e1:IntKind.u32.min=0:=aM;have e2:IntKind.u32.max=4294967295:=aM;rw[e1,e2] at h;omega
theorem wf_u64(h:(Lit.int .u64 n).wf=true): 0≤n∧n<18446744073709551616:=by
 simp only[Lit.wf,lX,decide_eq_true_eq] at h;have e1:IntKind.u64.min=0:=aM;have e2:IntKind.u64.max=18446744073709551615:=aM;rw[e1,e2] at h;omega
theorem Ip: af.cellsOf 24=6:=bh
theorem LA{H:Type}{enc:TypeId × Value→H}{base b0:Nat}{r:Reach}{v:Value}{d:DataW H}{p:List MemPlace}
  (hv:Value.okWide af W r b0 24 v) (h:DataW.Trod enc af W base (fun _=>true) true 24 v d p) :
  ∃ s:StN,v= .agg (NS s)∧s.Ok∧s.ep<18446744073709551616∧s.sq<18446744073709551616∧ -9223372036854775808≤s.odd∧s.odd≤9223372036854775807:=by
 obtain⟨cs,rfl,hsz⟩:=okWide_struct Tryz.underlying24 hv;rw[Ip] at hsz;obtain⟨l⟩:=cs;obtain⟨fuel,hf⟩:=h
 match l,hsz with
 | [v0,v1,v2,v3,v4,v5],_=>
  obtain⟨xs,k,hk,RR,_,zu,RX⟩:=DataW.trod_struct Tryz.underlying24 (show jg enc af W base (fun _=>true) true fuel 24 [v0,v1,v2,v3,v4,v5]=some (d,p)from by simpa[Value.cells] using hf)
  match xs,zu with
  | [y0,y1,y2,y3,y4,y5],_=>
   have g0:=RX 0 _ rfl;have g1:=RX 1 _ rfl;have g2:=RX 2 _ rfl;have g3:=RX 3 _ rfl;have g4:=RX 4 _ rfl;have g5:=RX 5 _ rfl;obtain⟨s0,r0,_,w0⟩:=lW fx (show jg enc af W base (fun _=>true) true k 3 [v0]=some y0 from g0);obtain⟨s1,r1,_,w1⟩:=lW fx (show jg enc af W base (fun _=>true) true k 3 [v1]=some y1 from g1);obtain⟨s2,r2,_⟩:=DataW.trod_bool Tryz.underlying4 (show jg enc af W base (fun _=>true) true k 4 [v2]=some y2 from g2);obtain⟨s3,r3,_,w3⟩:=lW Tryz.underlying22 (show jg enc af W base (fun _=>true) true k 22 [v3]=some y3 from g3);obtain⟨s4,r4,_,w4⟩:=lW Tryz.underlying22 (show jg enc af W base (fun _=>true) true k 22 [v4]=some y4 from g4);obtain⟨s5,r5,_,w5⟩:=lW fx (show jg enc af W base (fun _=>true) true k 3 [v5]=some y5 from g5);simp at r0 r1 r2 r3 r4 r5;subst r0 r1 r2 r3 r4 r5;have u3:=wf_u64 w3;have u4:=wf_u64 w4;obtain⟨e3,rfl⟩:=eo u3.1;obtain⟨e4,rfl⟩:=eo u4.1;exact⟨⟨s0,s1,s2,e3,e4,s5⟩,rfl,⟨wf_i64 w0,wf_i64 w1⟩,by show e3<_;omega,by show e4<_;omega,wf_i64 w5⟩
theorem IG{H:Type}{P:Program}{t e:TypeId}(hu:P.underlying t=some (.slice e))(xs ys:List (DataW H)): xs.length*P.bytesOf e+ys.length*P.bytesOf e∈(DataW.slice xs ys).weights P t:=by
 simp only[DataW.weights,hu,dZ];simp[Nat.add_mul]
instance: Inhabited iM:=⟨⟨0,0,0,0,0⟩⟩
theorem MA: af.cellsOf 63=5:=bh
theorem MB: af.bytesOf 63=40:=bh
theorem QW{H:Type}{enc:TypeId × Value→H}{base b0:Nat}{r:Reach}{v:Value}{d:DataW H}{p:List MemPlace}
  (hv:Value.okWide af W r b0 25 v) (h:DataW.Trod enc af W base (fun _=>true) true 25 v d p)
  (hs: ∀ n∈d.weights af 25,n≤reachBytes) :
  ∃ (l:List iM) (A:Option Addr) (c:Nat),v= .slice A l.length c∧Ng W A l∧(∀ a∈l,a.Ok)∧l.length≤70368744177664:=by
 obtain⟨a0,LS,akV,rfl⟩:=okWide_slice Gw hv;obtain⟨fuel,hf⟩:=h;rcases open_slice Gw (show jg enc af W base (fun _=>true) true fuel 25 [.slice a0 LS akV]=some (d,p)from by simpa[Value.cells] using hf)with⟨e1,e2⟩|⟨ad,len,cap,m,n,D,Pl,e1,hb,hl,hm,VZ,e2,hx⟩
 ·simp at e1;obtain⟨rfl,rfl,rfl⟩:=e1;exact⟨[],none,0,rfl,fun h=>absurd rfl h,dM,dM⟩
 ·simp at e1;obtain⟨rfl,rfl,rfl⟩:=e1;simp only[if_true] at VZ;subst VZ;injection e2 with e2 _
  subst e2;rw[MA] at hx;have each: ∀ i,i<LS→∃ x:iM,(∀ (j:Nat) (u:Value),(jG x).toList[j]? =some u→W.cell? (ad.add (i*5+j))=some u)∧x.Ok:=by
   intro i hi;obtain⟨cs',h1,h2⟩:=hx i ai;obtain⟨_,hlen,hcell⟩:=World.cells?_some h1;obtain⟨xs,k,hk,RR,_,zu,RX⟩:=DataW.trod_struct Tryz.underlying63 h2
   match xs,zu,cs',hlen with
   | [y0,y1,y2,y3,y4],_,[v0,v1,v2,v3,v4],_=>
    have g0:=RX 0 _ rfl;have g1:=RX 1 _ rfl;have g2:=RX 2 _ rfl;have g3:=RX 3 _ rfl;have g4:=RX 4 _ rfl;obtain⟨s0,r0,_,w0⟩:=lW fx (show jg enc af W base (fun _=>true) true k 3 [v0]=some y0 from g0);obtain⟨s1,r1,_,w1⟩:=lW fx (show jg enc af W base (fun _=>true) true k 3 [v1]=some y1 from g1);obtain⟨s2,r2,_,w2⟩:=lW fx (show jg enc af W base (fun _=>true) true k 3 [v2]=some y2 from g2);obtain⟨s3,r3,_,w3⟩:=lW fx (show jg enc af W base (fun _=>true) true k 3 [v3]=some y3 from g3);obtain⟨s4,r4,_,w4⟩:=lW Tryz.underlying39 (show jg enc af W base (fun _=>true) true k 39 [v4]=some y4 from g4);simp at r0 r1 r2 r3 r4;subst r0 r1 r2 r3 r4;have c0:=hcell 0 ai;have c1:=hcell 1 ai;have c2:=hcell 2 ai;have c3:=hcell 3 ai;have c4:=hcell 4 ai;rw[add_add] at c0 c1 c2 c3 c4;refine⟨⟨s0,s1,s2,s3,s4⟩,fun j u hu=>?_,⟨wf_i64 w0,wf_i64 w1,wf_i64 w2,wf_i64 w3,wf_u32 w4⟩⟩
    match j,hu with
    | 0,hu=>injection hu with hu;subst hu;exact c0
    | 1,hu=>injection hu with hu;subst hu;exact c1
    | 2,hu=>injection hu with hu;subst hu;exact c2
    | 3,hu=>injection hu with hu;subst hu;exact c3
    | 4,hu=>injection hu with hu;subst hu;exact c4
    | j+5,hu=>simp[jG] at hu
  obtain⟨F,hF⟩:=choose_lt each;have hw:=hs _ (IG Gw _ _);rw[MB] at hw;simp only[dZ,List.length_range] at hw;have hr:reachBytes=140737488351232:=rfl;refine⟨(List.range LS).map F,some ad,m,dM,fun hne=>?_,?_,by simp only[dZ,List.length_range];omega⟩
  ·obtain⟨b,off,spot⟩:=ad;have hlen:0<LS:=by
    rcases Nat.eq_zero_or_pos LS with h|h
    ·subst h;simp at hne
    exact h
   have hc0:=(hF 0 hlen).1 0 _ rfl;have hspot:spot=none:=by simpa[Addr.add] using World.cell?_spot hc0
   subst hspot;refine⟨b,off,rfl,block_lt_of_cell (a:=⟨b,off,none⟩) (by simpa[Addr.add] using hc0),fun k hk j u hu=>?_⟩;have Hb:k<LS:=by simpa using hk
   have hgd:((List.range LS).map F)[k]=F k:=dM;rw[hgd] at hu;have:=(hF k Hb).1 j u hu;rw[←this];congr 1;rw[add_plain,Nat.add_assoc]
  intro x hx2;obtain⟨k,hk,rfl⟩:=List.mem_map.1 hx2;exact(hF k (by simpa using hk)).2
