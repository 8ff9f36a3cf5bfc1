import Derived.Test.YtemighjbfanenaaGreatDoorPk41
import Derived.Test.YtemighjbfanenaaGreatDoorRows
import Derived.ProofKit
import Derived.Lib.LaidTab
import Derived.Stop.LaidErr
import Derived.OpenShut
import Derived.ShutString
import Derived.ChangeOld
import Derived.Below
import Derived.ChangeSlices
import Derived.Lib.SmallJoins
import Derived.Deep.Slices
import Derived.Deep.Fields
import Derived.SizedLaws
import Derived.MakeChecks
import Derived.Lay
import Derived.Deep.DeepHandedRow
set_option linter.all false
set_option maxRecDepth 100000
set_option maxHeartbeats 16000000
namespace Go.Proofs.YtemighjbfanenaaGreatDoor
open RowKit
open En (By fk Qq)
open Cr (cj Fx)
open Rf (iD Ny StN jD FC)
open Bool renaming and_eq_true→lS
open Go.DataW renaming trod→jf,trod_int→lR
open Go.Input renaming okWide_of_okWideB→PK
open Go.MakeChecks renaming laidMetH_plain→PJ
open Go.Proofs.Tryz renaming underlying3→fu,underlying25→GR,prog→af
open Int renaming eq_ofNat_of_zero_le→eu
open List renaming length_map→gZ
section
namespace Kpo
open Go.RowKit Go.ChangeShapes Go.WideShapes Go.ChangeAt Go.Joins Go.Deep
variable{W:World}{n:Int}
theorem Iw{H:Type}{enc:TypeId × Value→H}{C:Checked}{os:Os}{f:FuncId}{fn:Func}{s:OpenSpec}{conds:List PathCond}{apart:Bool}{laid:List (String × DataW Unit)}(modest:Bool)(w0:World)(args:Array Value)(hos:w0.os=os)
  (hv:(w0.forCall (fun _ _=>0) ⟨#[],args,[]⟩).variablesZipB C.prog=true)
  (hr:((w0.forCall (fun _ _=>0) ⟨#[],args,[]⟩).heap.toList.drop C.prog.globals.size).take ((begin C.prog (fun _ _=>0) default).world.heap.size - C.prog.globals.size) =
   (begin C.prog (fun _ _=>0) default).world.heap.toList.drop C.prog.globals.size)
  (fq:Input.okWideB C.prog (w0.forCall (fun _ _=>0) ⟨#[],args,[]⟩) f ⟨#[],args,[]⟩=true)
  (hrow:s.preRow enc C.prog fn conds apart laid (w0.forCall (fun _ _=>0) ⟨#[],args,[]⟩).memory args) :
  ∃ (w:World) (tape:Tape) (i:Input),w.os=os∧(w.forCall tape i).Shaped C.prog∧i.vars= []∧Input.okWide C.prog (w.forCall tape i) .any w.heap.size f i∧
   s.preRow enc C.prog fn conds apart laid (w.forCall tape i).memory i.args∧({modest:=modest}:Assume).holds C.prog (lone (Frame.enter C.prog f i.args .normal) [] (w.forCall tape i)):=
 ⟨w0,fun _ _=>0,⟨#[],args,[]⟩,hos,World.shaped_of_ZipB hv hr,(PK (base:=0) fq).1,(PK fq).2,hrow,by
  simp only[Assume.holds];exact⟨dR,dR,fun _=>Modest.zero,dR,dR⟩⟩
theorem aib: af.globalNamed "gangway/replies.fields" =some 0:=br
theorem WJ: (af.globals[0]?).map (·.type)=some 349:=br
theorem afn: af.cellsOf 349=11:=br
theorem afo: af.cellsOf 3=1:=br
theorem aic: af.globalNamed "gangway/crc.table" =some 1:=br
theorem WK: (af.globals[1]?).map (·.type)=some 483:=br
theorem afp: af.cellsOf 483=16:=br
theorem afm: af.cellsOf 39=1:=br
def BH: List (String × DataW Unit):=[("gangway/crc.table",Rows.laid_gangway_crc_table),("gangway/replies.fields",Rows.laid_gangway_replies_fields)]
theorem UF: (BH.all fun x=>x.2.handleName?.isNone)=true:=br
theorem table(h:laidMetH af BH W): Lib.TabIs af W "gangway/replies.fields" .i64 [0,5,0,0,2,6,5,4,8,8,8]:=by
 rw[PJ _ _ _ UF] at h;exact Lib.tabIs_of_head (rest:=[]) aib WJ Tryz.underlying349 fu afo afn h.tail
theorem aes: ∀ i:Fin 11,([0,5,0,0,2,6,5,4,8,8,8]:List Int).getD i.val 0=(Qq.getD i.val 0:Nat):=aN
theorem tab(h:laidMetH af BH W): fk W:=fun i hi=>by rw[(table h).cell aib i hi,aes ⟨i,hi⟩]
theorem ajZ(h:laidMetH af BH W): Lib.TabIs af W "gangway/crc.table" .u32 [0,498536548,997073096,651767980,1994146192,1802195444,1303535960,1342533948,3988292384,4027552580,3604390888,3412177804,2607071920,2262029012,2685067896,3183342108]:=by
 rw[PJ _ _ _ UF] at h;exact Lib.tabIs_of_head (rest:=[("gangway/replies.fields",Rows.laid_gangway_replies_fields)]) aic WK Tryz.underlying483 Tryz.underlying39 afm afp h
theorem ZK: ∀ i:Fin 16,([0,498536548,997073096,651767980,1994146192,1802195444,1303535960,1342533948,3988292384,4027552580,3604390888,3412177804,2607071920,2262029012,2685067896,3183342108]:List Int).getD i.val 0=(Fx.getD i.val 0:Nat):=aN
theorem ic(h:laidMetH af BH W): cj W:=fun i hi=>by rw[(ajZ h).cell aic i hi,ZK ⟨i,hi⟩]
theorem wf_i64(h:(Lit.int .i64 n).wf=true): -9223372036854775808≤n∧n≤9223372036854775807:=by
 simp only[Lit.wf,lS,decide_eq_true_eq] at h;have e1:IntKind.i64.min= -9223372036854775808:=aN;have e2:IntKind.i64.max=9223372036854775807:=aN;rw[e1,e2] at h;exact h
theorem wf_u32(h:(Lit.int .u32 n).wf=true): 0≤n∧n<4294967296:=by
 simp only[Lit.wf,lS,decide_eq_true_eq] at h;have e1:IntKind.u32.min=0:=aN;have e2:IntKind.u32.max=4294967295:=aN;rw[e1,e2] at h;omega
theorem wf_u64(h:(Lit.int .u64 n).wf=true): 0≤n∧n<18446744073709551616:=by
 simp only[Lit.wf,lS,decide_eq_true_eq] at h;have e1:IntKind.u64.min=0:=aN;have e2:IntKind.u64.max=18446744073709551615:=aN;rw[e1,e2] at h;omega
theorem IP: af.cellsOf 24=6:=br
theorem LU{H:Type}{enc:TypeId × Value→H}{base b0:Nat}{r:Reach}{v:Value}{d:DataW H}{p:List MemPlace}
  (hv:Value.okWide af W r b0 24 v) (h:DataW.Trod enc af W base (fun _=>true) true 24 v d p) :
  ∃ s:StN,v= .agg (FC s)∧s.Ok∧s.ep<18446744073709551616∧s.sq<18446744073709551616∧ -9223372036854775808≤s.odd∧s.odd≤9223372036854775807:=by
 obtain⟨cs,rfl,hsz⟩:=okWide_struct Tryz.underlying24 hv;rw[IP] at hsz;obtain⟨l⟩:=cs;obtain⟨fuel,hf⟩:=h
 match l,hsz with
 | [v0,v1,v2,v3,v4,v5],_=>
  obtain⟨xs,k,hk,R6,_,Jk,Sb⟩:=DataW.trod_struct Tryz.underlying24 (show jf enc af W base (fun _=>true) true fuel 24 [v0,v1,v2,v3,v4,v5]=some (d,p)from by simpa[Value.cells] using hf)
  match xs,Jk with
  | [y0,y1,y2,y3,y4,y5],_=>
   have g0:=Sb 0 _ rfl;have g1:=Sb 1 _ rfl;have g2:=Sb 2 _ rfl;have g3:=Sb 3 _ rfl;have g4:=Sb 4 _ rfl;have g5:=Sb 5 _ rfl;obtain⟨s0,r0,_,w0⟩:=lR fu (show jf enc af W base (fun _=>true) true k 3 [v0]=some y0 from g0);obtain⟨s1,r1,_,w1⟩:=lR fu (show jf enc af W base (fun _=>true) true k 3 [v1]=some y1 from g1);obtain⟨s2,r2,_⟩:=DataW.trod_bool Tryz.underlying4 (show jf enc af W base (fun _=>true) true k 4 [v2]=some y2 from g2);obtain⟨s3,r3,_,w3⟩:=lR Tryz.underlying22 (show jf enc af W base (fun _=>true) true k 22 [v3]=some y3 from g3);obtain⟨s4,r4,_,w4⟩:=lR Tryz.underlying22 (show jf enc af W base (fun _=>true) true k 22 [v4]=some y4 from g4);obtain⟨s5,r5,_,w5⟩:=lR fu (show jf enc af W base (fun _=>true) true k 3 [v5]=some y5 from g5);simp at r0 r1 r2 r3 r4 r5;subst r0 r1 r2 r3 r4 r5;have u3:=wf_u64 w3;have u4:=wf_u64 w4;obtain⟨e3,rfl⟩:=eu u3.1;obtain⟨e4,rfl⟩:=eu u4.1;exact⟨⟨s0,s1,s2,e3,e4,s5⟩,rfl,⟨wf_i64 w0,wf_i64 w1⟩,by show e3<_;omega,by show e4<_;omega,wf_i64 w5⟩
theorem I8{H:Type}{P:Program}{t e:TypeId}(hu:P.underlying t=some (.slice e))(xs ys:List (DataW H)): xs.length*P.bytesOf e+ys.length*P.bytesOf e∈(DataW.slice xs ys).weights P t:=by
 simp only[DataW.weights,hu,gZ];simp[Nat.add_mul]
instance: Inhabited iD:=⟨⟨0,0,0,0,0⟩⟩
theorem MR: af.cellsOf 63=5:=br
theorem MS: af.bytesOf 63=40:=br
theorem Rh{H:Type}{enc:TypeId × Value→H}{base b0:Nat}{r:Reach}{v:Value}{d:DataW H}{p:List MemPlace}
  (hv:Value.okWide af W r b0 25 v) (h:DataW.Trod enc af W base (fun _=>true) true 25 v d p)
  (hs: ∀ n∈d.weights af 25,n≤reachBytes) :
  ∃ (l:List iD) (A:Option Addr) (c:Nat),v= .slice A l.length c∧Ny W A l∧(∀ a∈l,a.Ok)∧l.length≤70368744177664:=by
 obtain⟨a0,Mg,akZ,rfl⟩:=okWide_slice GR hv;obtain⟨fuel,hf⟩:=h;rcases open_slice GR (show jf enc af W base (fun _=>true) true fuel 25 [.slice a0 Mg akZ]=some (d,p)from by simpa[Value.cells] using hf)with⟨e1,e2⟩|⟨ad,len,cap,m,n,D,Pl,e1,hb,hl,hm,V8,e2,hx⟩
 ·simp at e1;obtain⟨rfl,rfl,rfl⟩:=e1;exact⟨[],none,0,rfl,fun h=>absurd rfl h,dR,dR⟩
 ·simp at e1;obtain⟨rfl,rfl,rfl⟩:=e1;simp only[if_true] at V8;subst V8;injection e2 with e2 _
  subst e2;rw[MR] at hx;have each: ∀ i,i<Mg→∃ x:iD,(∀ (j:Nat) (u:Value),(jD x).toList[j]? =some u→W.cell? (ad.add (i*5+j))=some u)∧x.Ok:=by
   intro i hi;obtain⟨cs',h1,h2⟩:=hx i aj;obtain⟨_,hlen,hcell⟩:=World.cells?_some h1;obtain⟨xs,k,hk,R6,_,Jk,Sb⟩:=DataW.trod_struct Tryz.underlying63 h2
   match xs,Jk,cs',hlen with
   | [y0,y1,y2,y3,y4],_,[v0,v1,v2,v3,v4],_=>
    have g0:=Sb 0 _ rfl;have g1:=Sb 1 _ rfl;have g2:=Sb 2 _ rfl;have g3:=Sb 3 _ rfl;have g4:=Sb 4 _ rfl;obtain⟨s0,r0,_,w0⟩:=lR fu (show jf enc af W base (fun _=>true) true k 3 [v0]=some y0 from g0);obtain⟨s1,r1,_,w1⟩:=lR fu (show jf enc af W base (fun _=>true) true k 3 [v1]=some y1 from g1);obtain⟨s2,r2,_,w2⟩:=lR fu (show jf enc af W base (fun _=>true) true k 3 [v2]=some y2 from g2);obtain⟨s3,r3,_,w3⟩:=lR fu (show jf enc af W base (fun _=>true) true k 3 [v3]=some y3 from g3);obtain⟨s4,r4,_,w4⟩:=lR Tryz.underlying39 (show jf enc af W base (fun _=>true) true k 39 [v4]=some y4 from g4);simp at r0 r1 r2 r3 r4;subst r0 r1 r2 r3 r4;have c0:=hcell 0 aj;have c1:=hcell 1 aj;have c2:=hcell 2 aj;have c3:=hcell 3 aj;have c4:=hcell 4 aj;rw[add_add] at c0 c1 c2 c3 c4;refine⟨⟨s0,s1,s2,s3,s4⟩,fun j u hu=>?_,⟨wf_i64 w0,wf_i64 w1,wf_i64 w2,wf_i64 w3,wf_u32 w4⟩⟩
    match j,hu with
    | 0,hu=>injection hu with hu;subst hu;exact c0
    | 1,hu=>injection hu with hu;subst hu;exact c1
    | 2,hu=>injection hu with hu;subst hu;exact c2
    | 3,hu=>injection hu with hu;subst hu;exact c3
    | 4,hu=>injection hu with hu;subst hu;exact c4
    | j+5,hu=>simp[jD] at hu
  obtain⟨F,hF⟩:=choose_lt each;have hw:=hs _ (I8 GR _ _);rw[MS] at hw;simp only[gZ,List.length_range] at hw;have hr:reachBytes=140737488351232:=rfl;refine⟨(List.range Mg).map F,some ad,m,dR,fun hne=>?_,?_,by simp only[gZ,List.length_range];omega⟩
  ·obtain⟨b,off,spot⟩:=ad;have hlen:0<Mg:=by
    rcases Nat.eq_zero_or_pos Mg with h|h
    ·subst h;simp at hne
    exact h
   have hc0:=(hF 0 hlen).1 0 _ rfl;have hspot:spot=none:=by simpa[Addr.add] using World.cell?_spot hc0
   subst hspot;refine⟨b,off,rfl,block_lt_of_cell (a:=⟨b,off,none⟩) (by simpa[Addr.add] using hc0),fun k hk j u hu=>?_⟩;have Hz:k<Mg:=by simpa using hk
   have hgd:((List.range Mg).map F)[k]=F k:=dR;rw[hgd] at hu;have:=(hF k Hz).1 j u hu;rw[←this];congr 1;rw[add_plain,Nat.add_assoc]
  intro x hx2;obtain⟨k,hk,rfl⟩:=List.mem_map.1 hx2;exact(hF k (by simpa using hk)).2
