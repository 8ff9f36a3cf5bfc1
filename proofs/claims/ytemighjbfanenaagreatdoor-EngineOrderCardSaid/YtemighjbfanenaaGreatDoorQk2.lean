import Derived.Test.YtemighjbfanenaaGreatDoorQk1
import Derived.Laws.Bits64b
import Derived.IntWalk
import Derived.Laws.CopyRow
import Derived.Laws.CopyOwn
import Derived.Test.YtemighjbfanenaaGreatDoorProg
import Derived.ArgAppend
import Derived.WalkSmall
set_option linter.all false
set_option maxRecDepth 100000
set_option maxHeartbeats 16000000
namespace Go.Proofs.YtemighjbfanenaaGreatDoor
open RowKit
open Go.IntKind renaming u64→cU,wrap_u64→lN
open Go.Proofs.Tryz renaming prog→af
open Go.World renaming cell?_of_block→eQ
open List renaming length_take→gT,cons_append→Ns,length_cons→ve,getElem?_eq_some_iff→iX,replicate→dT
open Nat renaming lt_of_lt_of_le→aU,mul_comm→Nq,pow_le_pow_right→Cp,le_trans→aV,min_eq_left→qL
open UInt8 renaming ofNat→Nr
open _root_.Array renaming getElem?_eq_some_iff→eL
theorem Ad{p:Prop}(h:p:=by injection e with e;exact e.symm):p:=h
theorem xm{p:Prop}(h:p:=by first|rfl|trivial):p:=h
theorem AE{p:Prop}(h:p:=by have:=HK.o;omega):p:=h
theorem Tn{p:Prop}(h:p:=by injection e with e;injection e with e _;exact e.symm):p:=h
theorem nA{p:Prop}(h:p:=by cases e):p:=h
theorem Ta{p:Prop}(h:p:=by obtain⟨cur,h1,h2⟩:=h;exact⟨cur,hk.trans h1,h2⟩):p:=h
theorem mB{p:Prop}(h:p:=by rw[hl]):p:=h
section
namespace Oc
def le(n:Nat): Nat→List UInt8
 | 0=>[]
 | k+1=>le n k++ [Nr (n / 256 ^ k)]
def val: List UInt8→Nat
 | []=>0
 | b::r=>b.toNat+256*val r
theorem bG(n:Nat): ∀ k,(le n k).length=k
 | 0=>rfl
 | k+1=>by rw[le,List.length_append,bG n k];rfl
theorem zY(b:UInt8): ∀ l,val (l++ [b])=val l+b.toNat*256 ^ l.length
 | []=>by simp[val]
 | c::r=>by
  rw[Ns,val,zY b r,val,ve,Nat.pow_succ,Nat.mul_add];have:256*(b.toNat*256 ^ r.length)=b.toNat*(256 ^ r.length*256):=by rw[Nq 256,Nat.mul_assoc]
  omega
theorem zZ: ∀ l,val l<256 ^ l.length
 | []=>by simp[val]
 | c::r=>by
  have:=zZ r;have h2:c.toNat<256:=c.toNat_lt;rw[val,ve,Nat.pow_succ];omega
theorem Sz(n:Nat): ∀ k,val (le n k)=n % 256 ^ k
 | 0=>by simp[le,val,Nat.mod_one]
 | k+1=>by
  rw[le,zY,Sz n k,bG,Nat.mod_pow_succ];have:(Nr (n / 256 ^ k)).toNat=n / 256 ^ k % 256:=dM;rw[this,Nq]
theorem jX(n k:Nat)(h:n<256 ^ k): val (le n k)=n:=by rw[Sz,Nat.mod_eq_of_lt h]
def fG(b:UInt8): Value:=.int .u8 (b.toNat:Int)
def aO(bs:List UInt8): List Value:=bs.map fG
theorem bu(bs:List UInt8): (aO bs).length=bs.length:=by simp[aO]
theorem dX(a b:List UInt8): aO (a++b)=aO a++aO b:=by simp[aO]
theorem bO(bs:List UInt8): ∀ u∈aO bs,u.oneCell'=true:=by
 intro u hu;obtain⟨b,_,rfl⟩:=List.mem_map.1 hu;rfl
theorem nO{bs:List UInt8}{i:Nat}(h:i<bs.length): (aO bs)[i]? =some (fG bs[i]):=by simp[aO,h]
theorem aaA(n i:Nat): Value.int .u8 ((n:Int) / 2 ^ (8*i) % 256)=fG (Nr (n / 256 ^ i)):=by
 have e:(2:Int) ^ (8*i)=((256 ^ i:Nat):Int):=by rw[Int.pow_mul];norm_cast
 unfold fG;rw[e];congr 1
theorem ZM(a b i:Nat)(ha:a<256 ^ i)(hb:b<256)(hi:i<8): Go.bits BinOp.or cU (a:Int) (cU.wrap ((b:Int)*2 ^ (8*i)))=((a+b*256 ^ i:Nat):Int):=by
 have e:(256:Nat) ^ i=2 ^ (8*i):=by rw[Nat.pow_mul]
 have h1:b*256 ^ i<18446744073709551616:=by
  have:b*256 ^ i<256*256 ^ i:=Nat.mul_lt_mul_of_pos_right hb (Nat.pow_pos ai);have h2:256*256 ^ i≤256 ^ 8:=by rw[←Nat.pow_succ'];exact Cp ai ai
  omega
 have h3:a<18446744073709551616:=aU ha (aV (Cp ai (show i≤8 from ai)) aM);have e2:(b:Int)*2 ^ (8*i)=((b*256 ^ i:Nat):Int):=by rw[e];push_cast;rfl
 have e3:cU.wrap ((b*256 ^ i:Nat):Int)=((b*256 ^ i:Nat):Int):=by
  rw[lN];omega
 rw[e2,e3,bits_or_u64_nat a _ h3 h1];congr 1;rw[Nat.or_comm,Nq,e,←Nat.two_pow_add_eq_or_of_lt (by rw[←e];exact ha)];omega
end Oc
end
section
namespace En
abbrev By:=List UInt8
structure Dk where
 size:Nat
 dh:List By
 row:List (Nat × By)
def gN: List (Nat × By)→Nat→Option By
 | [],_=>none
 | x::r,i=>match gN r i with
  | some b=>some b
  | none=>if x.1=i then some x.2 else none
def Dk.look(d:Dk)(i:Nat): By:=(gN d.row i).getD (d.dh.getD i [])
def Dk.bad(d:Dk)(at_:Int): Bool:=decide (at_<0)||decide ((d.dh.length:Int)≤at_)
def Dk.write(d:Dk)(at_:Int)(b:By): Int × Dk:=
 if d.bad at_=true then(50,d)else if b.length=d.size then(0,{d with row:=d.row++ [(at_.toNat,b)]})else(3,d)
def Dk.read(d:Dk)(at_:Int): Int × By:=
 if d.bad at_=true then(50,[])else(0,d.look at_.toNat)
def over(s b:By)(k:Nat): By:=b.take k++s.drop k
theorem IE{s b:By}{k:Nat}(h:b.length=s.length): (over s b k).length=s.length:=by simp[over];omega
def fe(of:Nat→Nat): List By→Nat→List (Nat × By)→List By
 | dh,_,[]=>dh
 | dh,i,x::r=>fe of (dh.set x.1 (over (dh.getD x.1 []) x.2 (of i))) (i+1) r
theorem oC(of:Nat→Nat): ∀ r dh i,(fe of dh i r).length=dh.length
 | [],_,_=>rfl
 | x::r,dh,i=>by rw[fe,oC of r,List.length_set]
def Dk.settle(d:Dk)(of:Nat→Nat): Dk:={d with dh:=fe of d.dh 0 d.row,row:=[]}
def rp(size:Nat)(n:Int): Nat:=(min (max n 0) (size:Int)).toNat
structure Dk.Ok(d:Dk): Prop where
 size:1≤d.size∧d.size≤4096
 some:1≤d.dh.length∧d.dh.length≤65536
 each: ∀ b∈d.dh,b.length=d.size
 aD: ∀ x∈d.row,x.1<d.dh.length∧x.2.length=d.size
structure bJ where
 dk:Dk
 down:Bool
 ei:Int
 count:Int
def bJ.op(d:bJ): Bool × bJ:=
 if d.down=true then(false,d)
 else if d.ei=0 then(false,{d with down:=true,ei:=-1})
 else(true,{d with ei:=if 0<d.ei then d.ei - 1 else d.ei,count:=IntKind.i64.wrap (d.count+1)})
def bJ.write(d:bJ)(at_:Int)(b:By): Int × bJ:=
 if d.op.1=true then((d.op.2.dk.write at_ b).1,{d.op.2 with dk:=(d.op.2.dk.write at_ b).2})else(60,d.op.2)
def bJ.read(d:bJ)(at_:Int): Int × By × bJ:=
 if d.op.1=true then((d.op.2.dk.read at_).1,(d.op.2.dk.read at_).2,d.op.2)else(60,[],d.op.2)
def bJ.sync(d:bJ): Int × bJ:=
 if d.op.1=true then(0,{d.op.2 with dk:=d.op.2.dk.settle (fun _=>d.dk.size)})else(60,d.op.2)
structure Rg where
 from_:Nat
 count:Nat
structure Piece where
 s:Nat
 f:Nat
 t:Nat
def pieces(size:Nat): Nat→Nat→Nat→List Piece
 | 0,_,_=>[]
 | k+1,at_,n=>if n=0 then [] else
  ⟨at_ / size,at_ % size,min size (at_ % size+n)⟩::pieces size k (at_+(min size (at_ % size+n) - at_ % size)) (n - (min size (at_ % size+n) - at_ % size))
def Rg.bytes(r:Rg)(size:Nat): Nat:=r.count*size
def Rg.bad(r:Rg)(size:Nat)(at_ n:Int): Bool:=decide (at_<0)||decide (n<0)||decide ((r.bytes size:Int)<at_)||decide ((r.bytes size:Int) - at_<n)
def G8(r:Rg): bJ→List Piece→By→Int × By × bJ
 | d,[],acc=>(0,acc,d)
 | d,x::ps,acc=>if(d.read (r.from_+x.s:Nat)).1=0 then G8 r (d.read (r.from_+x.s:Nat)).2.2 ps (acc++((d.read (r.from_+x.s:Nat)).2.1.take x.t).drop x.f)
  else((d.read (r.from_+x.s:Nat)).1,[],(d.read (r.from_+x.s:Nat)).2.2)
def Rg.read(r:Rg)(d:bJ)(at_ n:Int): Int × By × bJ:=
 if r.bad d.dk.size at_ n=true then(2,[],d)else G8 r d (pieces d.dk.size n.toNat at_.toNat n.toNat) []
def Et(r:Rg)(d:bJ)(x:Piece)(b:By): Int × bJ:=
 if x.t - x.f<d.dk.size then
  if(d.read (r.from_+x.s:Nat)).1=0 then
   (d.read (r.from_+x.s:Nat)).2.2.write (r.from_+x.s:Nat) ((d.read (r.from_+x.s:Nat)).2.1.take x.f++b.take (x.t - x.f)++(d.read (r.from_+x.s:Nat)).2.1.drop x.t)
  else((d.read (r.from_+x.s:Nat)).1,(d.read (r.from_+x.s:Nat)).2.2)
 else d.write (r.from_+x.s:Nat) (b.take (x.t - x.f))
def KH(r:Rg): bJ→List Piece→By→Int × bJ
 | d,[],_=>(0,d)
 | d,x::ps,b=>if(Et r d x b).1=0 then KH r (Et r d x b).2 ps (b.drop (x.t - x.f))else Et r d x b
def Rg.write(r:Rg)(d:bJ)(at_:Int)(b:By): Int × bJ:=
 if r.bad d.dk.size at_ b.length=true then(2,d)else KH r d (pieces d.dk.size b.length at_.toNat b.length) b
end En
end
section
namespace Cr
def st(r:Nat): Nat:=if r % 2=1 then(r / 2) ^^^ 0xedb88320 else r / 2
def Fc: List Nat:=[0x00000000,0x1db71064,0x3b6e20c8,0x26d930ac,0x76dc4190,0x6b6b51f4,0x4db26158,0x5005713c,0xedb88320,0xf00f9344,0xd6d6a3e8,0xcb61b38c,0x9b64c2b0,0x86d3d2d4,0xa00ae278,0xbdbdf21c]
def st4(r:Nat): Nat:=Fc.getD (r % 16) 0 ^^^ (r / 16)
def JJ(r:Nat)(b:UInt8): Nat:=st4 (st4 (r ^^^ b.toNat))
def pQ(r:Nat): List UInt8→Nat
 | []=>r
 | b::l=>pQ (JJ r b) l
def ij(s:Nat)(l:List UInt8): Nat:=pQ (s ^^^ 0xffffffff) l ^^^ 0xffffffff
theorem Qs(a b:List UInt8): ∀ r,pQ r (a++b)=pQ (pQ r a) b:=by
 induction a with
 | nil=>intro r;rfl
 | cons x a ih=>intro r;rw[Ns,pQ,pQ,ih]
theorem wO{a b:Nat}(ha:a<4294967296)(hb:b<4294967296): a ^^^ b<4294967296:=Nat.xor_lt_two_pow (n:=32) ha hb
theorem Lt(i:Nat): Fc.getD i 0<4294967296:=by
 rcases Nat.lt_or_ge i 16 with h|h
 ·have: ∀ i,i<16→Fc.getD i 0<4294967296:=by decide
  exact this i h
 rw[List.getD_eq_getElem?_getD,List.getElem?_eq_none (by simpa[Fc] using h)];simp
theorem LB{r:Nat}(h:r<4294967296): st4 r<4294967296:=wO (Lt _) ai
theorem WV{r:Nat}(b:UInt8)(h:r<4294967296): JJ r b<4294967296:=
 LB (LB (wO h (aU b.toNat_lt aM)))
theorem Bb: ∀ (l:List UInt8) (r:Nat),r<4294967296→pQ r l<4294967296
 | [],_,h=>h
 | b::l,_,h=>Bb l _ (WV b h)
theorem Mu(s:Nat)(l:List UInt8)(h:s<4294967296): ij s l<4294967296:=wO (Bb l _ (wO h aM)) aM
end Cr
end
section
namespace En
open Oc (le val)
open Cr (ij)
def nu(bX seq:Nat)(body:By): By:=le body.length 2++le bX 8++le seq 8++body
def qz(bX seq:Nat)(body:By): By:=nu bX seq body++le (ij 0 (nu bX seq body)) 4
theorem qy(bX seq:Nat)(body:By): (qz bX seq body).length=22+body.length:=by simp[qz,nu,Oc.bG];omega
structure Lg where
 bX:Nat
 first:Nat
 eC:List By
 done:Nat
def jd(bX:Nat): Nat→List By→By
 | _,[]=>[]
 | seq,b::r=>qz bX (seq+1) b++jd bX (seq+1) r
theorem sA(bX:Nat)(a b:List By): ∀ seq,jd bX seq (a++b)=jd bX seq a++jd bX (seq+a.length) b:=by
 induction a with
 | nil=>intro seq;simp[jd]
 | cons x a ih=>intro seq;rw[Ns,jd,jd,ih,List.append_assoc,ve,Nat.add_assoc,Nat.add_comm 1]
def Lg.last(l:Lg): Nat:=l.first+l.eC.length
def Lg.cm(l:Lg): Nat:=l.first+l.done
def Lg.cz(l:Lg): By:=jd l.bX l.first (l.eC.take l.done)
def Lg.aD(l:Lg): By:=jd l.bX (l.first+l.done) (l.eC.drop l.done)
def Lg.used(l:Lg): Nat:=(jd l.bX l.first l.eC).length
structure Lg.Ok(l:Lg): Prop where
 done:l.done≤l.eC.length
 last:l.last<18446744073709551616
 bX:l.bX<18446744073709551616
 short: ∀ b∈l.eC,b.length≤32
theorem Lg.uo(l:Lg)(h:l.done≤l.eC.length): l.used=l.cz.length+l.aD.length:=by
 have e:l.eC=l.eC.take l.done++l.eC.drop l.done:=(List.take_append_drop _ _).symm;unfold Lg.used Lg.cz Lg.aD
 conv=>lhs;rw[e]
 rw[sA,List.length_append,gT,qL h]
def Lg.fits(l:Lg)(bytes n:Nat): Bool:=decide (n≤32) && decide (l.last≠18446744073709551615) && decide (22+n+l.used≤bytes)
def Lg.append(l:Lg)(b:By): Lg:={l with eC:=l.eC++ [b]}
def Lg.flush(l:Lg)(r:Rg)(d:bJ): Int × Lg × bJ:=
 if l.done=l.eC.length then(0,l,d)
 else if(r.write d l.cz.length l.aD).1=0 then
  if((r.write d l.cz.length l.aD).2.sync).1=0 then(0,{l with done:=l.eC.length},((r.write d l.cz.length l.aD).2.sync).2)
  else(((r.write d l.cz.length l.aD).2.sync).1,l,((r.write d l.cz.length l.aD).2.sync).2)
 else((r.write d l.cz.length l.aD).1,l,(r.write d l.cz.length l.aD).2)
def Lg.reset(l:Lg)(bX:Nat): Lg:=⟨bX,l.last,[],0⟩
structure Hd where
 gen:Nat
 mh:Nat
 len:Nat
 sum:Nat
def Hd.zero: Hd:=⟨0,0,0,0⟩
def Hd.may(h:Hd): Bool:=decide (0<h.gen) && decide (h.len≤67108864)
def uL: By:=[71,65,78,71]
def uK(h:Hd): By:=uL++le h.gen 8++le h.mh 8++le h.len 4++le h.sum 4
def Hc(h:Hd): By:=uK h++le (ij 0 (uK h)) 4
def aeQ(b:By): Hd:=⟨val ((b.drop 4).take 8),val ((b.drop 12).take 8),val ((b.drop 20).take 4),val ((b.drop 24).take 4)⟩
def Br(b:By): Option Hd:=
 if b.length<32 then none
 else if val ((b.drop 28).take 4)=ij 0 (b.take 28)∧b.take 4=uL then(if(aeQ b).may=true then some (aeQ b)else none)
 else none
structure Sl where
 a:Rg
 b:Rg
def Sl.one(s:Sl)(i:Nat): Rg:=if i=0 then s.a else s.b
def Sl.bytes(s:Sl)(size:Nat): Nat:=s.a.bytes size - size
def dc(r:Rg)(d:bJ): Int × Hd × bJ:=
 if(r.read d 0 d.dk.size).1=0 then
  (0,(match Br (r.read d 0 d.dk.size).2.1 with|some h=>if h.len≤r.bytes d.dk.size - d.dk.size then h else Hd.zero|none=>Hd.zero),(r.read d 0 d.dk.size).2.2)
 else((r.read d 0 d.dk.size).1,Hd.zero,(r.read d 0 d.dk.size).2.2)
def dg(s:Sl)(d:bJ)(i:Nat)(h:Hd): Int × Option By × bJ:=
 if h.gen=0 then(0,none,d)
 else if((s.one i).read d d.dk.size h.len).1=0 then
  (0,(if ij 0 ((s.one i).read d d.dk.size h.len).2.1=h.sum then some ((s.one i).read d d.dk.size h.len).2.1 else none),((s.one i).read d d.dk.size h.len).2.2)
 else(((s.one i).read d d.dk.size h.len).1,none,((s.one i).read d d.dk.size h.len).2.2)
structure Ld where
 err:Int
 hd:Hd
 body:By
 at_:Int
 dev:bJ
def kz(s:Sl)(d:bJ)(i j:Nat)(hi hj:Hd): Ld:=
 if(dg s d i hi).1=0 then
  match (dg s d i hi).2.1 with
  | some b=>⟨0,hi,b,i,(dg s d i hi).2.2⟩
  | none=>
   if(dg s (dg s d i hi).2.2 j hj).1=0 then
    match (dg s (dg s d i hi).2.2 j hj).2.1 with
    | some b=>⟨0,hj,b,j,(dg s (dg s d i hi).2.2 j hj).2.2⟩
    | none=>⟨0,Hd.zero,[],-1,(dg s (dg s d i hi).2.2 j hj).2.2⟩
   else⟨(dg s (dg s d i hi).2.2 j hj).1,Hd.zero,[],0,(dg s (dg s d i hi).2.2 j hj).2.2⟩
 else⟨(dg s d i hi).1,Hd.zero,[],0,(dg s d i hi).2.2⟩
def Sl.load(s:Sl)(d:bJ): Ld:=
 if(dc s.a d).1=0 then
  if(dc s.b (dc s.a d).2.2).1=0 then
   if(dc s.a d).2.1.gen<(dc s.b (dc s.a d).2.2).2.1.gen then kz s (dc s.b (dc s.a d).2.2).2.2 1 0 (dc s.b (dc s.a d).2.2).2.1 (dc s.a d).2.1
   else kz s (dc s.b (dc s.a d).2.2).2.2 0 1 (dc s.a d).2.1 (dc s.b (dc s.a d).2.2).2.1
  else⟨(dc s.b (dc s.a d).2.2).1,Hd.zero,[],0,(dc s.b (dc s.a d).2.2).2.2⟩
 else⟨(dc s.a d).1,Hd.zero,[],0,(dc s.a d).2.2⟩
def dC(r:Rg)(d:bJ)(at_:Nat)(b:By): Int × bJ:=
 if(r.write d at_ b).1=0 then(r.write d at_ b).2.sync else r.write d at_ b
def Sl.save(s:Sl)(d:bJ)(body:By)(mh:Nat): Int × Hd × bJ:=
 if s.bytes d.dk.size<body.length then(3,Hd.zero,d)
 else if(s.load d).err≠0 then((s.load d).err,Hd.zero,(s.load d).dev)
 else if(s.load d).hd.gen=18446744073709551615 then(6,Hd.zero,(s.load d).dev)
 else
  let h:Hd:=⟨(s.load d).hd.gen+1,mh,body.length,ij 0 body⟩
  let r:=if(s.load d).at_=0 then s.b else s.a
  if(dC r (s.load d).dev d.dk.size body).1≠0 then((dC r (s.load d).dev d.dk.size body).1,Hd.zero,(dC r (s.load d).dev d.dk.size body).2)
  else if(dC r (dC r (s.load d).dev d.dk.size body).2 0 (Hc h++dT (d.dk.size - 32) 0)).1≠0 then
   ((dC r (dC r (s.load d).dev d.dk.size body).2 0 (Hc h++dT (d.dk.size - 32) 0)).1,Hd.zero,(dC r (dC r (s.load d).dev d.dk.size body).2 0 (Hc h++dT (d.dk.size - 32) 0)).2)
  else(0,h,(dC r (dC r (s.load d).dev d.dk.size body).2 0 (Hc h++dT (d.dk.size - 32) 0)).2)
end En
end
section
namespace En
open Oc (le val)
open Cr (ij)
structure Rec where
 ax:Int
 id:Int
 aw:Int
 aR:Int
 aq:Int
def dN(k:Int): Bool × Bool × Bool × Bool:=
 if k=1 then(true,true,true,false)else if k=2 then(true,false,false,false)else if k=3 then(true,false,false,false)
 else if k=4 then(true,true,false,false)else if k=5 then(false,false,false,true)else(false,false,false,false)
def recKind(k:Int): Bool:=decide (1≤k) && decide (k≤5)
def within(there:Bool)(n lo hi:Int): Bool:=if there=true then decide (lo≤n) && decide (n≤hi)else decide (n=0)
def Rec.ok(r:Rec): Bool:=
 recKind r.ax && within (dN r.ax).1 r.id 1 4294967295 && within (dN r.ax).2.1 r.aw 0 1023 && within (dN r.ax).2.2.1 r.aR 1 1099511627776 && within (dN r.ax).2.2.2 r.aq 1 1099511627776
def cO(k:Int): Nat:=if k=1 then 15 else if k=2 then 5 else if k=3 then 5 else if k=4 then 7 else if k=5 then 9 else 0
def jb(r:Rec): By:=
 le r.ax.toNat 1++(if(dN r.ax).1=true then le r.id.toNat 4 else [])++(if(dN r.ax).2.1=true then le r.aw.toNat 2 else [])++(if(dN r.ax).2.2.1=true then le r.aR.toNat 8 else [])++(if(dN r.ax).2.2.2=true then le r.aq.toNat 8 else [])
structure Rq where
 ax:Int
 tag:Int
 id:Int
 aw:Int
 bV:Int
def dx(k:Int): Bool × Bool × Bool:=
 if k=1 then(false,true,true)else if k=2 then(true,false,false)else if k=3 then(true,false,false)else if k=4 then(true,true,false)
 else if k=5 then(true,false,false)else if k=6 then(false,true,false)else if k=7 then(false,false,true)else(false,false,false)
def jt(k:Int): Bool:=decide (1≤k) && decide (k≤10)
def Rq.ok(q:Rq): Bool:=
 jt q.ax && decide (0≤q.aw) && decide (q.aw≤65535) && decide (0≤q.bV) && ((dx q.ax).1||decide (q.id=0)) && ((dx q.ax).2.1||decide (q.aw=0)) && ((dx q.ax).2.2||decide (q.bV=0))
def kZ(q:Rq): By:=
 le q.ax.toNat 1++le q.tag.toNat 4++(if(dx q.ax).1=true then le q.id.toNat 4 else [])++(if(dx q.ax).2.1=true then le q.aw.toNat 2 else [])++(if(dx q.ax).2.2=true then le q.bV.toNat 8 else [])
def bt(k:Int): Bool:=decide (1≤k) && decide (k≤4)||decide (k=7)
structure Rp where
 tag:Int
 ax:Int
 err:Int
 id:Int
 aw:Int
 aR:Int
 count:Int
end En
end
section
open Oc (aO fG bu)
def Gr(S:Nat→Prop)(w w':World): Nat→Prop:=fun k=>S k∨(w.heap.size≤k∧k<w'.heap.size)
structure Loc(A:(Nat→Prop)→World→Prop): Prop where
 lt: ∀ {S:Nat→Prop} {w:World},A S w→∀ k,S k→k<w.heap.size
 same: ∀ {S:Nat→Prop} {w w':World},A S w→w.heap.size≤w'.heap.size→(∀ k,S k→w'.heap[k]? =w.heap[k]?)→A S w'
 mono: ∀ {S T:Nat→Prop} {w:World},A S w→(∀ k,S k→T k)→(∀ k,T k→k<w.heap.size)→A T w
section
variable {A:(Nat→Prop)→World→Prop}{S T:Nat→Prop}{w w1 w2 w':World}
theorem Loc.ak(L:Loc A)(h:A S w)(hb:Below w.heap.size w w'): A S w':=L.same h hb.size fun k hk=>hb.block k (L.lt h k hk)
theorem Loc.cR(L:Loc A)(h:A S w)(ht:aI T w w')(hd: ∀ k,S k→¬T k): A S w':=L.same h ht.size fun k hk=>ht.block k (L.lt h k hk) (hd k hk)
theorem Loc.grow(L:Loc A)(h:A (Gr (Gr S w w1) w1 w2) w2)(h1:w.heap.size≤w1.heap.size)(h2:w1.heap.size≤w2.heap.size)(hS: ∀ k,S k→k<w.heap.size): A (Gr S w w2) w2:=
 L.mono h (fun k hk=>by
  rcases hk with(hk|hk)|hk
  ·exact .inl hk
  ·exact .inr ⟨hk.1,aU hk.2 h2⟩
  ·exact .inr ⟨aV h1 hk.1,hk.2⟩) (fun k hk=>by
  rcases hk with hk|hk
  ·exact aU (hS k hk) (aV h1 h2)
  exact hk.2)
theorem Loc.Ac(L:Loc A)(h:A S w')(hS: ∀ k,S k→k<w.heap.size)(hz:w.heap.size≤w'.heap.size): A (Gr S w w') w':=
 L.mono h (fun _ hk=>.inl hk) (fun k hk=>by rcases hk with hk|hk;exact aU (hS k hk) hz;exact hk.2)
theorem Gr.old{k:Nat}(h:Gr S w w' k)(hk:k<w.heap.size): S k:=by rcases h with h|h;exact h;omega
theorem Gr.apart(hd: ∀ k,S k→¬T k)(hT: ∀ k,T k→k<w.heap.size): ∀ k,Gr S w w' k→¬T k:=fun k hk ht=>hd k (hk.old (hT k ht)) ht
theorem aI.gr(h:aI S w w1)(k:aI (Gr S w w1) w1 w2): aI S w w2:=
 h.new (k.mono fun j _ hj=>by rcases hj with hj|hj;exact .inl hj;exact .inr hj.1)
theorem aI.aW(hb:Below w.heap.size w w'): aI S w w':=⟨hb.os,hb.tape,hb.output,hb.size,fun k hk _=>hb.block k hk⟩
theorem aI.fresh(h:aI S w1 w2)(hb:Below w.heap.size w w1)(hS: ∀ k,S k→w.heap.size≤k): Below w.heap.size w w2:=aI.nz hb h hS
end
theorem aI.at(w:World)(q i:Nat)(u:Value): aI (· =q) w (w.setCell ⟨q,i,none⟩ u):=(aI.refl (· =q) w).put (p:=⟨q,i,none⟩) (.inl rfl) u
variable{w:World}{t:TypeId}{g:Nat}
theorem aI.BQ{a:World} {q:Nat}(h:aI (· =q) a w)(i:Nat)(u:Value): aI (· =q) a (w.setCell ⟨q,i,none⟩ u):=h.put (p:=⟨q,i,none⟩) (.inl rfl) u
theorem aI.cells{q:Nat}{w':World} (h:aI (· =q) w w'){b:Nat}(hb:b<w.heap.size)(hne:b≠q)(o:Nat): w'.cell? ⟨b,o,none⟩=w.cell? ⟨b,o,none⟩:=eQ (a:=⟨b,o,none⟩) (h.block b hb hne)
def jO(w:World)(u8:TypeId)(g:Nat)(bs:List UInt8): Prop:=∃ cur:Array Value,w.heap[g]? =some (.cells cur u8 (0,0))∧∀ (j:Nat) (u:Value),(aO bs)[j]? =some u→cur[j]? =some u
theorem jO.lt{bs:List UInt8}(h:jO w t g bs): g<w.heap.size:=by obtain⟨cur,h1,_⟩:=h;exact(eL.1 h1).1
theorem jO.same{w':World} {bs:List UInt8}(h:jO w t g bs)(hk:w'.heap[g]? =w.heap[g]?): jO w' t g bs:=Ta
theorem jO.cell{bs:List UInt8}(h:jO w t g bs){j:Nat}(hj:j<bs.length): w.cell? ⟨g,j,none⟩=some (fG bs[j]):=by
 obtain⟨cur,h1,h2⟩:=h;rw[show w.cell? ⟨g,j,none⟩=cur[j]? from by simp[World.cell?,h1]];exact h2 j _ (Oc.nO hj)
end
section
namespace Oc
def Bs(w:World)(A:Option Addr)(bs:List UInt8): Prop:=bs≠ []→∃ g off,A=some ⟨g,off,none⟩∧g<w.heap.size∧∀ i u,(aO bs)[i]? =some u→w.cell? ⟨g,off+i,none⟩=some u
variable{w w':World}{A:Option Addr}{g off q k p:Nat}{e:Int}
theorem Bs.ah{bs:List UInt8}(h:Bs w A bs)(hb:Below w.heap.size w w'): Bs w' A bs:=fun hne=>by
 obtain⟨g,off,h1,h2,h3⟩:=h hne;exact⟨g,off,h1,aU h2 hb.size,fun i u hu=>(hb.cell (p:=⟨g,off+i,none⟩) h2).trans (h3 i u hu)⟩
theorem Bs.nil(w:World)(A:Option Addr): Bs w A []:=fun h=>absurd rfl h
theorem Bs.cR{S:Nat→Prop}{bs:List UInt8}(h:Bs w A bs)(ht:aI S w w')(hS: ∀ g off,A=some ⟨g,off,none⟩→g<w.heap.size→¬S g): Bs w' A bs:=fun hne=>by
 obtain⟨g,off,h1,h2,h3⟩:=h hne;exact⟨g,off,h1,aU h2 ht.size,fun i u hu=>(eQ (a:=⟨g,off+i,none⟩) (ht.block g h2 (hS g off h1 h2))).trans (h3 i u hu)⟩
theorem Bs.read{ad:Addr}{bs:List UInt8}(h:Bs w (some ad) bs): ∀ j u,(aO bs)[j]? =some u→w.cell? (ad.add j)=some u:=fun j u hu=>by
 have hj:=(iX.1 hu).1;rw[bu] at hj;obtain⟨g,off,hA,_,hh⟩:=h (by intro e;subst e;simp at hj);obtain rfl:=Option.some.inj hA;rw[←hh j u hu];congr 1;unfold Addr.add;split
 ·subst_vars;rfl
 rfl
theorem Bs.cell{bs:List UInt8}(h:Bs w (some ⟨g,off,none⟩) bs){i:Nat}(hi:i<bs.length): w.cell? ⟨g,off+i,none⟩=some (fG bs[i]):=by
 obtain⟨g',CT,hA,_,hh⟩:=h (by intro e;subst e;simp at hi);injection hA with hA;injection hA with e1 e2
 subst e1 e2;exact hh i _ (nO hi)
theorem Bs.take{bs:List UInt8}(h:Bs w A bs)(k:Nat): Bs w A (bs.take k):=fun hne=>by
 obtain⟨g,off,h1,h2,h3⟩:=h (by rintro rfl;simp at hne);refine⟨g,off,h1,h2,fun i u hu=>h3 i u ?_⟩;have hi:=(iX.1 hu).1;rw[bu,gT] at hi;rw[←hu,aO,aO,List.map_take,List.getElem?_take,if_pos ai]
theorem Bs.drop{bs:List UInt8}(h:Bs w (some ⟨g,off,none⟩) bs)(k:Nat): Bs w (some ⟨g,off+k,none⟩) (bs.drop k):=fun hne=>by
 obtain⟨g',CT,h1,h2,h3⟩:=h (by rintro rfl;simp at hne);injection h1 with h1;injection h1 with e1 e2
 subst e1 e2;refine⟨g,off+k,rfl,h2,fun i u hu=>?_⟩;rw[Nat.add_assoc];refine h3 (k+i) u ?_;rw[←hu,aO,aO,List.map_drop,List.getElem?_drop]
theorem Bs.own{base cap:Nat}{bs:List UInt8}(h:w.ownsRow base 5 1 (.slice A bs.length cap) bs.length (aO bs)): Bs w A bs:=fun hne=>by
 rcases h.2 with⟨_,h0⟩|⟨g,c,cur,hv,_,hh,_⟩
 ·exact absurd (List.eq_nil_of_length_eq_zero h0) hne
 injection hv with e1 _ e2
 subst e1 e2;exact⟨g,0,rfl,(eL.1 hh).1,fun i u hu=>by
  rw[Nat.zero_add,h.cellAt i (by have:=(iX.1 hu).1;rw[bu] at this;omega)];exact hu⟩
theorem e8: (af.info? 5).map (fun i=>(i.zero,i.size,i.bytes))=some (some (.int .u8 0),1,1):=bh
structure rF(w:World)(q:Nat)(bs:List UInt8)(e:Int): Prop where
 ex: ∃ A c,aG w q 346 #[.slice A bs.length c,.int .i64 e]∧Bs w A bs∧bs.length≤c∧(∀ g off,A=some ⟨g,off,none⟩→g≠q∧(bs≠ []→∃ cur,w.heap[g]? =some (.cells cur 5 (0,0))))
theorem rF.ah{bs:List UInt8}(h:rF w q bs e)(hb:Below w.heap.size w w'): rF w' q bs e:=by
 obtain⟨A,c,h1,h2,h3,h4⟩:=h.ex;exact⟨A,c,h1.ah hb,h2.ah hb,h3,fun g off e=>⟨(h4 g off e).1,fun hne=>by obtain⟨cur,hc⟩:=(h4 g off e).2 hne;exact⟨cur,(hb.block g (eL.1 hc).1).trans hc⟩⟩⟩
def qV(A:Option Addr): Prop:=∀ ad,A=some ad→∃ g off,ad=⟨g,off,none⟩
theorem eT: qV none:=fun ad e=>nA
theorem cM(g off:Nat): qV (some ⟨g,off,none⟩):=fun ad e=>⟨g,off,Ad⟩
def tk(bs:List UInt8)(e:Int)(k:Nat): List UInt8 × List UInt8 × Int:=
 if e≠0 then([],bs,e)else if bs.length<k then([],[],4)else(bs.take k,bs.drop k,0)
theorem T7{bs:List UInt8}(h:e≠0): tk bs e k=([],bs,e):=if_pos h
theorem Ik{bs:List UInt8}(h:bs.length<k): tk bs 0 k=([],[],4):=by rw[tk,if_neg dM,if_pos h]
theorem qT{bs:List UInt8}(h:k≤bs.length): tk bs 0 k=(bs.take k,bs.drop k,0):=by rw[tk,if_neg dM,if_neg ai]
theorem qc(bs:List UInt8)(e:Int)(k:Nat): (tk bs e k).1.length≤k:=by
 unfold tk;split
 ·simp
 split
 ·simp
 simp[gT];omega
def mi(q:Nat)(bs:List UInt8)(e:Int)(k:Nat)(w:World)(en:Ending)(w':World): Prop:=
 (∃ A c,en= .returned (.slice A (tk bs e k).1.length c)∧Bs w' A (tk bs e k).1∧qV A)∧rF w' q (tk bs e k).2.1 (tk bs e k).2.2∧aI (· =q) w w'
theorem mi.err{bs:List UInt8}(he:e≠0)(h:rF w' q bs e)(ht:aI (· =q) w w')(c:Nat): mi q bs e k w (.returned (.slice none 0 c)) w':=by unfold mi;rw[T7 he];exact⟨⟨none,c,rfl,Bs.nil _ _,eT⟩,h,ht⟩
theorem mi.short{bs:List UInt8}(hk:bs.length<k)(h:rF w' q [] 4)(ht:aI (· =q) w w')(c:Nat): mi q bs 0 k w (.returned (.slice none 0 c)) w':=by unfold mi;rw[Ik hk];exact⟨⟨none,c,rfl,Bs.nil _ _,eT⟩,h,ht⟩
theorem mi.ok{bs:List UInt8}(hk:k≤bs.length){c:Nat} (hb:Bs w' (some ⟨g,off,none⟩) (bs.take k))(h:rF w' q (bs.drop k) 0)(ht:aI (· =q) w w'): mi q bs 0 k w (.returned (.slice (some ⟨g,off,none⟩) k c)) w':=by unfold mi;rw[qT hk];exact⟨⟨_,c,by rw[gT,qL hk],hb,cM g off⟩,h,ht⟩
theorem rF.gone(w:World)(q:Nat)(e:Int)(h:aG w q 346 #[.slice none 0 0,.int .i64 e]): rF w q [] e:=⟨none,0,h,Bs.nil _ _,Nat.le_refl _,fun g off e=>nA⟩
theorem Ua(q k:Nat)(bs:List UInt8)(e:Int)(w:World)(h:rF w q bs e)(he:e≠0): Calls af 354 #[.pointer (some ⟨q,0,none⟩),.int .i64 k] w (mi q bs e k w):=by
 obtain⟨A,c,h1,h2,h3,h4⟩:=h.ex;have x0:w.cell? ⟨q,0,none⟩=some (.slice A bs.length c):=h1.cell 0;have x1:w.cell? ⟨q,1,none⟩=some (.int .i64 e):=h1.cell 1;have hb:(e==0)=false:=by simp[he]
 have HF:=aa (mi.err (q:=q) (k:=k) he h (aI.refl (· =q) w));clear h h1 h2 h3 h4;go_enter Tryz.func354,Tryz.ntmps354;go_wp2_with fail;go_ret;exact HF.o _
theorem Lu(q k:Nat)(bs:List UInt8)(w:World)(h:rF w q bs 0)(hk:bs.length<k)(hk2:k≤1000000): Calls af 354 #[.pointer (some ⟨q,0,none⟩),.int .i64 k] w (mi q bs 0 k w):=by
 obtain⟨A,c,h1,h2,h3,h4⟩:=h.ex;have x0:w.cell? ⟨q,0,none⟩=some (.slice A bs.length c):=h1.cell 0;have x1:w.cell? ⟨q,1,none⟩=some (.int .i64 0):=h1.cell 1;have m0:=h1.mark 0;have m1:=h1.mark 1;have hn:(bs.length:Int)<(k:Int):=ai;have DN: ¬(k:Int)<0:=ai;have HF:=aa (mi.short (q:=q) hk (rF.gone _ q 4 (by simpa using(h1.put 0 (.slice none 0 0)).put 1 (.int .i64 4))) ((aI.at w q 0 _).BQ 1 _));clear h h1 h2 h3 h4 hk;go_enter Tryz.func354,Tryz.ntmps354;go_wp2_with fail;go_ret;exact HF.o _
theorem Zx(q k:Nat)(bs:List UInt8)(w:World)(h:rF w q bs 0)(hk:k≤bs.length)(hne:bs≠ []): Calls af 354 #[.pointer (some ⟨q,0,none⟩),.int .i64 k] w (mi q bs 0 k w):=by
 obtain⟨A,c,h1,h2,h3,h4⟩:=h.ex;obtain⟨g,off,rfl,hg,hh⟩:=h2 hne;have x0:w.cell? ⟨q,0,none⟩=some (.slice (some ⟨g,off,none⟩) bs.length c):=h1.cell 0;have x1:w.cell? ⟨q,1,none⟩=some (.int .i64 0):=h1.cell 1;have m0:=h1.mark 0;have hn:(k:Int)≤(bs.length:Int):=ai;have hc:(bs.length:Int)≤(c:Int):=ai;have DN:(0:Int)≤(k:Int):=ai;have hq:g≠q:=(h4 g off rfl).1;obtain⟨cur,pV⟩:=(h4 g off rfl).2 hne;have HA:=aa h1;have HB:=aa h2;have HK:=aa hk;have lH: ∀ (CT cc:Nat) (u:Value) (W:World),W=w.setCell ⟨q,0,none⟩ u→u= .slice (some ⟨g,CT,none⟩) (bs.length - k) (c - k)→(CT=off+k∨bs.length=k)→mi q bs 0 k w (.returned (.slice (some ⟨g,off,none⟩) k cc)) W:=by
  rintro CT cc u W rfl rfl ho;have ht:aI (· =q) w (w.setCell ⟨q,0,none⟩ (.slice (some ⟨g,CT,none⟩) (bs.length - k) (c - k))):=aI.at w q 0 _;have hB': ∀ {B:Option Addr} {l:List UInt8},Bs w B l→(∀ g' o',B=some ⟨g',o',none⟩→g'=g)→Bs (w.setCell ⟨q,0,none⟩ (.slice (some ⟨g,CT,none⟩) (bs.length - k) (c - k))) B l:=fun hB hg'=>hB.cR ht fun g' o' e _ e2=>hq (by rw[←hg' g' o' e];exact e2)
  refine mi.ok hk (hB' (h2.take k) fun g' o' e=>Tn) ⟨some ⟨g,CT,none⟩,c - k,?_,?_,?_,?_⟩ ht
  ·rw[List.length_drop];simpa using h1.put 0 (.slice (some ⟨g,CT,none⟩) (bs.length - k) (c - k))
  ·rcases ho with rfl|ho
   ·exact hB' (h2.drop k) fun g' o' e=>Tn
   rw[List.drop_of_length_le ai];exact Bs.nil _ _
  ·rw[List.length_drop];omega
  intro g' o' e;injection e with e;injection e with e _;rw[←e];exact⟨hq,fun _=>⟨cur,(ht.block g (eL.1 pV).1 hq).trans pV⟩⟩
 have HF:=aa lH;clear h h1 h2 h4 hh hk lH pV cur;go_enter Tryz.func354,Tryz.ntmps354;go_wp2_with fail
 ·go_ret;exact HF.o off _ _ _ rfl (by rw[h,Nat.sub_self]) (.inr AE)
 go_ret;exact HF.o _ _ _ _ rfl rfl (.inl rfl)
theorem zk(q k:Nat)(bs:List UInt8)(e:Int)(w:World)(h:rF w q bs e)(hk:1≤k∧k≤1000000): Calls af 354 #[.pointer (some ⟨q,0,none⟩),.int .i64 k] w (mi q bs e k w):=by
 by_cases he:e=0
 ·subst he;rcases Nat.lt_or_ge bs.length k with hl|hl
  ·exact Lu q k bs w h hl hk.2
  exact Zx q k bs w h hl (by rintro rfl;simp at hl;omega)
 exact Ua q k bs e w h he
theorem Hu(b:UInt8): cU.wrap (b.toNat:Int)=(b.toNat:Int):=by have:b.toNat<256:=b.toNat_lt;rw[lN];omega
theorem lz{l:List UInt8}(h:l.length≤k): val l<256 ^ k:=aU (zZ l) (Cp aM h)
theorem CO{l:List UInt8}{i:Nat}(h:i<l.length): val (l.take (i+1))=val (l.take i)+l[i].toNat*256 ^ i:=by rw[List.take_add_one,List.getElem?_eq_getElem h,Option.toList_some,zY,gT,qL ai]
def O3(q:Nat)(bs:List UInt8)(e:Int)(k:Nat)(w:World)(en:Ending)(w':World): Prop:=
 en= .returned (.int .u64 (val (tk bs e k).1:Nat))∧rF w' q (tk bs e k).2.1 (tk bs e k).2.2∧aI (· =q) w w'
theorem Qo(q k:Nat)(bs:List UInt8)(e:Int)(w:World)(h:rF w q bs e)(hk:1≤k∧k≤8): Calls af 311 #[.pointer (some ⟨q,0,none⟩),.int .i64 k] w (O3 q bs e k w):=by
 have HH:=aa (zk q k bs e w h ⟨hk.1,ai⟩);have HK:=aa hk;clear h hk;go_enter Tryz.func311,Tryz.ntmps311;go_wp2_with fail;refine HH.o.mono ?_;rintro en w1 ⟨⟨A,c,rfl,hb,_⟩,hr,ht⟩;obtain⟨l,hl⟩:=ae ((tk bs e k).1);have hlk:l.length≤8:=by rw[←hl];exact aV (qc bs e k) HK.o.2
 have lH:O3 q bs e k w (.returned (.int .u64 (val l:Nat))) w1:=⟨mB,hr,ht⟩;rw[hl] at hb ⊢;have HB:=aa hb;have HF:=aa lH;have amf:(l.length:Int)≤8:=ai;clear hb hr ht lH hl HH HK;go_wp2_with fail;go_loopw [5,12] (fun n i wr=>∃ j:Nat,j≤l.length∧i= .int .i64 j∧n= .int .u64 (val (l.take j):Nat)∧wr=w1) (fun _ i _=>(l.length - intOf i).toNat)
 case atStart=>exact⟨0,ai,rfl,rfl,rfl⟩
 case round=>
  obtain⟨j,hj,rfl,rfl,hw⟩:=hrel;rw[hw];clear hw;by_cases h:j<l.length
  ·have h':(j:Int)<(l.length:Int):=by omega
   have OI:(0:Int)≤(j:Int):=ai;obtain⟨g,off,hA,_,_⟩:=HB.o (by rintro rfl;simp at h);subst hA;have x0:w1.cell? ⟨g,off+j,none⟩=some (fG l[j]):=HB.o.cell h;have hv:=CO h;have ho:=ZM (val (l.take j)) l[j].toNat j (by have:=zZ (l.take j);rwa [gT,qL ai] at this) l[j].toNat_lt ai;rw[←hv] at ho;unfold fG at x0;have HO:=aa ho;clear ho hv;go_wp2_with fail;go_roundw
   case rel=>exact⟨j+1,ai,by go_num,by rw[Hu,HO.o],xm⟩
   case measure=>simp[intOf];omega
  have h': ¬(j:Int)<(l.length:Int):=ai;have V3:j=l.length:=ai;subst V3;go_wp2_with fail;go_ret;exact HF.o
structure jV(w:World)(p q:Nat)(bs:List UInt8)(e:Int): Prop where
 own:aG w p 348 #[.pointer (some ⟨q,0,none⟩)]
 rest:rF w q bs e
theorem jV.ne{bs:List UInt8}(h:jV w p q bs e): p≠q:=by
 rintro rfl;obtain⟨A,c,h1,_⟩:=h.rest.ex;have h2:=h.own;rw[aG] at h1 h2;rw[h1] at h2;injection h2 with h2
 injection h2 with h2
 simp at h2
theorem jV.ah{bs:List UInt8}(h:jV w p q bs e)(hb:Below w.heap.size w w'): jV w' p q bs e:=⟨h.own.ah hb,h.rest.ah hb⟩
theorem jV.next{bs bs':List UInt8}{e':Int} (h:jV w p q bs e)(hr:rF w' q bs' e')(ht:aI (· =q) w w'): jV w' p q bs' e':=⟨ht.arr h.own h.ne,hr⟩
theorem fQ(p q:Nat)(w:World)(h:w.cell? ⟨p,0,none⟩=some (.pointer (some ⟨q,0,none⟩))): Calls af 310 #[.pointer (some ⟨p,0,none⟩)] w fun e w'=>e= .returned (.bool true)∧w'=w:=by
 go_enter Tryz.func310,Tryz.ntmps310;go_wp2_with fail;go_wp2_with fail;go_ret;exact⟨rfl,rfl⟩
theorem zq(p q k:Nat)(bs:List UInt8)(e:Int)(w:World)(h:jV w p q bs e)(hk:1≤k∧k≤8): Calls af 237 #[.pointer (some ⟨p,0,none⟩),.int .i64 k] w (O3 q bs e k w):=by
 have x0:w.cell? ⟨p,0,none⟩=some (.pointer (some ⟨q,0,none⟩)):=h.own.cell 0;have HN:=aa (Qo q k bs e w h.rest hk);clear h hk;go_enter Tryz.func237,Tryz.ntmps237;go_wp2_with fail;refine ag (fQ p q w x0) ?_;go_wp2_with fail;refine HN.o.mono ?_;rintro en w1 h1;obtain⟨rfl,h2,h3⟩:=h1;have HF:=aa (show O3 q bs e k w _ w1 from⟨rfl,h2,h3⟩);clear h2 h3;go_wp2_with fail;go_ret;exact HF.o
