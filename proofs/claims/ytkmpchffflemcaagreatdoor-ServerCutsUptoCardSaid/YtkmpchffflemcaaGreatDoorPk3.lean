/- Packed: EnPlain, CrcPlain, EnPlain2, Oct, Oct2, Oct3, Disk, Disk3, Disk4, Disk6, Disk7, Power, Power3, Region, Concat, Region3, Crc, Wal, Wal3, Slots, Slots5. -/
import Derived.Test.YtkmpchffflemcaaGreatDoorPk2
import Derived.Test.YtkmpchffflemcaaGreatDoorProg
import Derived.ArgAppend
import Derived.OwnWalk
import Derived.WalkSmall
import Derived.Laws.BitsAllLaws
import Derived.StillTailTactics
import Derived.Test.YtkmpchffflemcaaGreatDoorPk1
import Derived.WalkArith
import Derived.WideKeyEntry
import Derived.Lib.AppendZeros
import Derived.Maps.AppendAt
set_option linter.unusedVariables false
set_option linter.unusedSimpArgs false
/- The engine's layers as plain functions: disk, power, region. No program in sight. -/
section
set_option linter.unusedVariables false
set_option linter.unusedSimpArgs false
namespace Go.Proofs.YtkmpchffflemcaaGreatDoor.En

abbrev By := List UInt8

/-- a disk: durable sectors, writes that wait -/
structure Dk where
  size : Nat
  dur : List By
  row : List (Nat × By)
def rowLook : List (Nat × By) → Nat → Option By
  | [], _ => none
  | x :: r, i => match rowLook r i with
    | some b => some b
    | none => if x.1 = i then some x.2 else none
def Dk.look (d : Dk) (i : Nat) : By := (rowLook d.row i).getD (d.dur.getD i [])
def Dk.bad (d : Dk) (at_ : Int) : Bool := decide (at_ < 0) || decide ((d.dur.length : Int) ≤ at_)
def Dk.read (d : Dk) (at_ : Int) : Int × By :=
  if d.bad at_ = true then (50, []) else (0, d.look at_.toNat)
/-- the first k bytes of b over those of s -/
def over (s b : By) (k : Nat) : By := b.take k ++ s.drop k
/-- a fate: its kind, its number -/
structure Fate where
  kind : Int
  at_ : Int
structure Dk.Ok (d : Dk) : Prop where
  size : 1 ≤ d.size ∧ d.size ≤ 4096
  some : 1 ≤ d.dur.length ∧ d.dur.length ≤ 65536
  each : ∀ b ∈ d.dur, b.length = d.size
  waits : ∀ x ∈ d.row, x.1 < d.dur.length ∧ x.2.length = d.size

/-- a device -/
structure Dev where
  dk : Dk
  down : Bool
  armed : Int
  count : Int
/-- an operation is made: may it be done? -/
def Dev.op (d : Dev) : Bool × Dev :=
  if d.down = true then (false, d)
  else if d.armed = 0 then (false, { d with down := true, armed := -1 })
  else (true, { d with armed := if 0 < d.armed then d.armed - 1 else d.armed, count := IntKind.i64.wrap (d.count + 1) })
def Dev.read (d : Dev) (at_ : Int) : Int × By × Dev :=
  if d.op.1 = true then ((d.op.2.dk.read at_).1, (d.op.2.dk.read at_).2, d.op.2) else (60, [], d.op.2)
def Dev.arm (d : Dev) (n : Int) : Int × Dev := if d.down = true then (60, d) else (0, { d with armed := max n (-1) })
structure Dev.Ok (d : Dev) : Prop where
  dk : d.dk.Ok
  armed : -1 ≤ d.armed ∧ d.armed ≤ 9223372036854775807
/-- a region: its span -/
structure Rg where
  from_ : Nat
  count : Nat
structure Piece where
  s : Nat
  f : Nat
  t : Nat
/-- the sectors that hold n bytes from at_ on, and which bytes of theirs -/
def pieces (size : Nat) : Nat → Nat → Nat → List Piece
  | 0, _, _ => []
  | k + 1, at_, n => if n = 0 then [] else
    ⟨at_ / size, at_ % size, min size (at_ % size + n)⟩ :: pieces size k (at_ + (min size (at_ % size + n) - at_ % size)) (n - (min size (at_ % size + n) - at_ % size))
def Rg.bytes (r : Rg) (size : Nat) : Nat := r.count * size
def Rg.bad (r : Rg) (size : Nat) (at_ n : Int) : Bool := decide (at_ < 0) || decide (n < 0) || decide ((r.bytes size : Int) < at_) || decide ((r.bytes size : Int) - at_ < n)
def rdP (r : Rg) : Dev → List Piece → By → Int × By × Dev
  | d, [], acc => (0, acc, d)
  | d, x :: ps, acc => if (d.read (r.from_ + x.s : Nat)).1 = 0 then rdP r (d.read (r.from_ + x.s : Nat)).2.2 ps (acc ++ ((d.read (r.from_ + x.s : Nat)).2.1.take x.t).drop x.f)
    else ((d.read (r.from_ + x.s : Nat)).1, [], (d.read (r.from_ + x.s : Nat)).2.2)
def Rg.read (r : Rg) (d : Dev) (at_ n : Int) : Int × By × Dev :=
  if r.bad d.dk.size at_ n = true then (2, [], d) else rdP r d (pieces d.dk.size n.toNat at_.toNat n.toNat) []
end Go.Proofs.YtkmpchffflemcaaGreatDoor.En
end

/- Sums of bytes, plainly: bit by bit, and four bits at a time. No program in sight. -/
section
set_option linter.unusedVariables false
set_option linter.unusedSimpArgs false
namespace Go.Proofs.YtkmpchffflemcaaGreatDoor.Cr

/-- a step of a number -/
def st (r : Nat) : Nat := if r % 2 = 1 then (r / 2) ^^^ 0xedb88320 else r / 2
def tblN : List Nat := [0x00000000, 0x1db71064, 0x3b6e20c8, 0x26d930ac, 0x76dc4190, 0x6b6b51f4, 0x4db26158, 0x5005713c, 0xedb88320, 0xf00f9344, 0xd6d6a3e8, 0xcb61b38c, 0x9b64c2b0, 0x86d3d2d4, 0xa00ae278, 0xbdbdf21c]
/-- four steps at once -/
def st4 (r : Nat) : Nat := tblN.getD (r % 16) 0 ^^^ (r / 16)
def byteS (r : Nat) (b : UInt8) : Nat := st4 (st4 (r ^^^ b.toNat))
def moreS (r : Nat) : List UInt8 → Nat
  | [] => r
  | b :: l => moreS (byteS r b) l
def crc (s : Nat) (l : List UInt8) : Nat := moreS (s ^^^ 0xffffffff) l ^^^ 0xffffffff
end Go.Proofs.YtkmpchffflemcaaGreatDoor.Cr
end

/- The engine's layers as plain functions: frames, log, slots. No program in sight. -/
section
set_option linter.unusedVariables false
set_option linter.unusedSimpArgs false
namespace Go.Proofs.YtkmpchffflemcaaGreatDoor.En
open Go.Proofs.YtkmpchffflemcaaGreatDoor.Oc (le val)
open Go.Proofs.YtkmpchffflemcaaGreatDoor.Cr (crc)

/-- a frame's bytes -/
def frameHead (epoch seq : Nat) (body : By) : By := le body.length 2 ++ le epoch 8 ++ le seq 8 ++ body
def frameB (epoch seq : Nat) (body : By) : By := frameHead epoch seq body ++ le (crc 0 (frameHead epoch seq body)) 4
/-- a log: the bodies of the frames since its begin, the first `done` of which are durable; the number ahead of the first -/
structure Lg where
  epoch : Nat
  first : Nat
  frames : List By
  done : Nat
def framesB (epoch : Nat) : Nat → List By → By
  | _, [] => []
  | seq, b :: r => frameB epoch (seq + 1) b ++ framesB epoch (seq + 1) r
theorem framesB_app (epoch : Nat) (a b : List By) : ∀ seq, framesB epoch seq (a ++ b) = framesB epoch seq a ++ framesB epoch (seq + a.length) b := by
  induction a with
  | nil => intro seq; simp [framesB]
  | cons x a ih => intro seq; rw [List.cons_append, framesB, framesB, ih, List.append_assoc, List.length_cons, Nat.add_assoc, Nat.add_comm 1]
def Lg.last (l : Lg) : Nat := l.first + l.frames.length
def Lg.durable (l : Lg) : Nat := l.first + l.done
def Lg.written (l : Lg) : By := framesB l.epoch l.first (l.frames.take l.done)
def Lg.waits (l : Lg) : By := framesB l.epoch (l.first + l.done) (l.frames.drop l.done)
def Lg.used (l : Lg) : Nat := (framesB l.epoch l.first l.frames).length
structure Lg.Ok (l : Lg) : Prop where
  done : l.done ≤ l.frames.length
  last : l.last < 18446744073709551616
  epoch : l.epoch < 18446744073709551616
  short : ∀ b ∈ l.frames, b.length ≤ 32
theorem Lg.used_split (l : Lg) (h : l.done ≤ l.frames.length) : l.used = l.written.length + l.waits.length := by
  have e : l.frames = l.frames.take l.done ++ l.frames.drop l.done := (List.take_append_drop _ _).symm
  unfold Lg.used Lg.written Lg.waits
  conv => lhs; rw [e]
  rw [framesB_app, List.length_append, List.length_take, Nat.min_eq_left h]
/-- a header -/
structure Hd where
  gen : Nat
  cov : Nat
  len : Nat
  sum : Nat
def Hd.zero : Hd := ⟨0, 0, 0, 0⟩
def Hd.may (h : Hd) : Bool := decide (0 < h.gen) && decide (h.len ≤ 67108864)
/-- two regions -/
structure Sl where
  a : Rg
  b : Rg
def Sl.bytes (s : Sl) (size : Nat) : Nat := s.a.bytes size - size
end Go.Proofs.YtkmpchffflemcaaGreatDoor.En
end

/- Layer 1: octets: a reader takes numbers off bytes. -/
section
set_option linter.unusedVariables false
set_option linter.unusedSimpArgs false
namespace Go.Proofs.YtkmpchffflemcaaGreatDoor.Oc
open Go.RowKit

/-- a slice's bytes, wherever they lie -/
def Bs (w : World) (A : Option Addr) (bs : List UInt8) : Prop := bs ≠ [] → ∃ g off, A = some ⟨g, off, none⟩ ∧ g < w.heap.size ∧ ∀ i u, (bytesV bs)[i]? = some u → w.cell? ⟨g, off + i, none⟩ = some u
theorem Bs.keep {w w' : World} {A : Option Addr} {bs : List UInt8} (h : Bs w A bs) (hb : Below w.heap.size w w') : Bs w' A bs := fun hne => by
  obtain ⟨g, off, h1, h2, h3⟩ := h hne
  exact ⟨g, off, h1, Nat.lt_of_lt_of_le h2 hb.size, fun i u hu => (hb.cell (p := ⟨g, off + i, none⟩) h2).trans (h3 i u hu)⟩
theorem Bs.nil (w : World) (A : Option Addr) : Bs w A [] := fun h => absurd rfl h
theorem Bs.tch {S : Nat → Prop} {w w' : World} {A : Option Addr} {bs : List UInt8} (h : Bs w A bs) (ht : Tch S w w') (hS : ∀ g off, A = some ⟨g, off, none⟩ → g < w.heap.size → ¬ S g) : Bs w' A bs := fun hne => by
  obtain ⟨g, off, h1, h2, h3⟩ := h hne
  exact ⟨g, off, h1, Nat.lt_of_lt_of_le h2 ht.size, fun i u hu => (World.cell?_of_block (a := ⟨g, off + i, none⟩) (ht.block g h2 (hS g off h1 h2))).trans (h3 i u hu)⟩
theorem Bs.read {w : World} {ad : Addr} {bs : List UInt8} (h : Bs w (some ad) bs) : ∀ j u, (bytesV bs)[j]? = some u → w.cell? (ad.add j) = some u := fun j u hu => by
  have hj := (List.getElem?_eq_some_iff.1 hu).1
  rw [bytesV_len] at hj
  obtain ⟨g, off, hA, _, hh⟩ := h (by intro e; subst e; simp at hj)
  obtain rfl := Option.some.inj hA
  rw [← hh j u hu]
  congr 1
  unfold Addr.add; split
  · subst_vars; rfl
  · rfl
theorem Bs.cell {w : World} {g off : Nat} {bs : List UInt8} (h : Bs w (some ⟨g, off, none⟩) bs) {i : Nat} (hi : i < bs.length) : w.cell? ⟨g, off + i, none⟩ = some (byteV bs[i]) := by
  obtain ⟨g', off', hA, _, hh⟩ := h (by intro e; subst e; simp at hi)
  injection hA with hA; injection hA with e1 e2
  subst e1 e2
  exact hh i _ (bytesV_get hi)
theorem Bs.take {w : World} {A : Option Addr} {bs : List UInt8} (h : Bs w A bs) (k : Nat) : Bs w A (bs.take k) := fun hne => by
  obtain ⟨g, off, h1, h2, h3⟩ := h (by rintro rfl; simp at hne)
  refine ⟨g, off, h1, h2, fun i u hu => h3 i u ?_⟩
  have hi := (List.getElem?_eq_some_iff.1 hu).1
  rw [bytesV_len, List.length_take] at hi
  rw [← hu, bytesV, bytesV, List.map_take, List.getElem?_take, if_pos (by omega)]
theorem Bs.drop {w : World} {g off : Nat} {bs : List UInt8} (h : Bs w (some ⟨g, off, none⟩) bs) (k : Nat) : Bs w (some ⟨g, off + k, none⟩) (bs.drop k) := fun hne => by
  obtain ⟨g', off', h1, h2, h3⟩ := h (by rintro rfl; simp at hne)
  injection h1 with h1; injection h1 with e1 e2
  subst e1 e2
  refine ⟨g, off + k, rfl, h2, fun i u hu => ?_⟩
  rw [Nat.add_assoc]
  refine h3 (k + i) u ?_
  rw [← hu, bytesV, bytesV, List.map_drop, List.getElem?_drop]
/-- of an owned row of bytes -/
theorem Bs.own {w : World} {base cap : Nat} {A : Option Addr} {bs : List UInt8} (h : w.ownsRow base 5 1 (.slice A bs.length cap) bs.length (bytesV bs)) : Bs w A bs := fun hne => by
  rcases h.2 with ⟨_, h0⟩ | ⟨g, c, cur, hv, _, hh, _⟩
  · exact absurd (List.eq_nil_of_length_eq_zero h0) hne
  · injection hv with e1 _ e2
    subst e1 e2
    exact ⟨g, 0, rfl, (Array.getElem?_eq_some_iff.1 hh).1, fun i u hu => by
      rw [Nat.zero_add, h.cellAt i (by have := (List.getElem?_eq_some_iff.1 hu).1; rw [bytesV_len] at this; omega)]
      exact hu⟩
theorem u8_info : (Tryz.prog.info? 5).map (fun i => (i.zero, i.size, i.bytes)) = some (some (.int .u8 0), 1, 1) := by kernel_rfl

/-- what is left to be read, and the error -/
structure RsAt (w : World) (q : Nat) (bs : List UInt8) (e : Int) : Prop where
  ex : ∃ A c, Arr w q 62 #[.slice A bs.length c, .int .i64 e] ∧ Bs w A bs ∧ bs.length ≤ c ∧ (∀ g off, A = some ⟨g, off, none⟩ → g ≠ q ∧ (bs ≠ [] → ∃ cur, w.heap[g]? = some (.cells cur 5 (0, 0))))
theorem RsAt.keep {w w' : World} {q : Nat} {bs : List UInt8} {e : Int} (h : RsAt w q bs e) (hb : Below w.heap.size w w') : RsAt w' q bs e := by
  obtain ⟨A, c, h1, h2, h3, h4⟩ := h.ex
  exact ⟨A, c, h1.keep hb, h2.keep hb, h3, fun g off e => ⟨(h4 g off e).1, fun hne => by obtain ⟨cur, hc⟩ := (h4 g off e).2 hne; exact ⟨cur, (hb.block g (Array.getElem?_eq_some_iff.1 hc).1).trans hc⟩⟩⟩
def okA (A : Option Addr) : Prop := ∀ ad, A = some ad → ∃ g off, ad = ⟨g, off, none⟩
theorem okA_none : okA none := fun ad e => by cases e
theorem okA_some (g off : Nat) : okA (some ⟨g, off, none⟩) := fun ad e => ⟨g, off, by injection e with e; exact e.symm⟩
/-- so many bytes are taken: they, what is left, the error -/
def tk (bs : List UInt8) (e : Int) (k : Nat) : List UInt8 × List UInt8 × Int :=
  if e ≠ 0 then ([], bs, e) else if bs.length < k then ([], [], 4) else (bs.take k, bs.drop k, 0)
theorem tk_err {bs : List UInt8} {e : Int} {k : Nat} (h : e ≠ 0) : tk bs e k = ([], bs, e) := if_pos h
theorem tk_short {bs : List UInt8} {k : Nat} (h : bs.length < k) : tk bs 0 k = ([], [], 4) := by rw [tk, if_neg (by simp), if_pos h]
theorem tk_ok {bs : List UInt8} {k : Nat} (h : k ≤ bs.length) : tk bs 0 k = (bs.take k, bs.drop k, 0) := by rw [tk, if_neg (by simp), if_neg (by omega)]
theorem tk_len (bs : List UInt8) (e : Int) (k : Nat) : (tk bs e k).1.length ≤ k := by
  unfold tk; split
  · simp
  · split
    · simp
    · simp [List.length_take]; omega
def TkOut (q : Nat) (bs : List UInt8) (e : Int) (k : Nat) (w : World) (en : Ending) (w' : World) : Prop :=
  (∃ A c, en = .returned (.slice A (tk bs e k).1.length c) ∧ Bs w' A (tk bs e k).1 ∧ okA A) ∧ RsAt w' q (tk bs e k).2.1 (tk bs e k).2.2 ∧ Tch (· = q) w w'

theorem TkOut.err {q k : Nat} {bs : List UInt8} {e : Int} {w w' : World} (he : e ≠ 0) (h : RsAt w' q bs e) (ht : Tch (· = q) w w') (c : Nat) : TkOut q bs e k w (.returned (.slice none 0 c)) w' := by
  unfold TkOut; rw [tk_err he]; exact ⟨⟨none, c, rfl, Bs.nil _ _, okA_none⟩, h, ht⟩
theorem TkOut.short {q k : Nat} {bs : List UInt8} {w w' : World} (hk : bs.length < k) (h : RsAt w' q [] 4) (ht : Tch (· = q) w w') (c : Nat) : TkOut q bs 0 k w (.returned (.slice none 0 c)) w' := by
  unfold TkOut; rw [tk_short hk]; exact ⟨⟨none, c, rfl, Bs.nil _ _, okA_none⟩, h, ht⟩
theorem TkOut.ok {q k : Nat} {bs : List UInt8} {w w' : World} (hk : k ≤ bs.length) {g off c : Nat} (hb : Bs w' (some ⟨g, off, none⟩) (bs.take k)) (h : RsAt w' q (bs.drop k) 0) (ht : Tch (· = q) w w') : TkOut q bs 0 k w (.returned (.slice (some ⟨g, off, none⟩) k c)) w' := by
  unfold TkOut; rw [tk_ok hk]; exact ⟨⟨_, c, by rw [List.length_take, Nat.min_eq_left hk], hb, okA_some g off⟩, h, ht⟩
theorem RsAt.gone (w : World) (q : Nat) (e : Int) (h : Arr w q 62 #[.slice none 0 0, .int .i64 e]) : RsAt w q [] e := ⟨none, 0, h, Bs.nil _ _, Nat.le_refl _, fun g off e => by cases e⟩

-- octets.rest.take
set_option maxRecDepth 100000 in
set_option maxHeartbeats 2000000 in
theorem take_err (q k : Nat) (bs : List UInt8) (e : Int) (w : World) (h : RsAt w q bs e) (he : e ≠ 0) : Calls Tryz.prog 27 #[.pointer (some ⟨q, 0, none⟩), .int .i64 k] w (TkOut q bs e k w) := by
  obtain ⟨A, c, h1, h2, h3, h4⟩ := h.ex
  have x0 : w.cell? ⟨q, 0, none⟩ = some (.slice A bs.length c) := h1.cell 0
  have x1 : w.cell? ⟨q, 1, none⟩ = some (.int .i64 e) := h1.cell 1
  have hb : (e == 0) = false := by simp [he]
  have HF := Lib.hid (TkOut.err (q := q) (k := k) he h (Tch.refl (· = q) w))
  clear h h1 h2 h3 h4
  go_enter Tryz.func27, Tryz.ntmps27
  go_wp2_with fail
  go_ret
  exact HF.out _
set_option maxRecDepth 100000 in
set_option maxHeartbeats 2000000 in
theorem take_short (q k : Nat) (bs : List UInt8) (w : World) (h : RsAt w q bs 0) (hk : bs.length < k) (hk2 : k ≤ 1000000) : Calls Tryz.prog 27 #[.pointer (some ⟨q, 0, none⟩), .int .i64 k] w (TkOut q bs 0 k w) := by
  obtain ⟨A, c, h1, h2, h3, h4⟩ := h.ex
  have x0 : w.cell? ⟨q, 0, none⟩ = some (.slice A bs.length c) := h1.cell 0
  have x1 : w.cell? ⟨q, 1, none⟩ = some (.int .i64 0) := h1.cell 1
  have m0 := h1.mark 0
  have m1 := h1.mark 1
  have hn : (bs.length : Int) < (k : Int) := by omega
  have hk0 : ¬ (k : Int) < 0 := by omega
  have HF := Lib.hid (TkOut.short (q := q) hk (RsAt.gone _ q 4 (by simpa using (h1.put 0 (.slice none 0 0)).put 1 (.int .i64 4))) ((Tch.at w q 0 _).at2 1 _))
  clear h h1 h2 h3 h4 hk
  go_enter Tryz.func27, Tryz.ntmps27
  go_wp2_with fail
  go_ret
  exact HF.out _
set_option maxRecDepth 100000 in
set_option maxHeartbeats 2000000 in
theorem take_ok (q k : Nat) (bs : List UInt8) (w : World) (h : RsAt w q bs 0) (hk : k ≤ bs.length) (hne : bs ≠ []) : Calls Tryz.prog 27 #[.pointer (some ⟨q, 0, none⟩), .int .i64 k] w (TkOut q bs 0 k w) := by
  obtain ⟨A, c, h1, h2, h3, h4⟩ := h.ex
  obtain ⟨g, off, rfl, hg, hh⟩ := h2 hne
  have x0 : w.cell? ⟨q, 0, none⟩ = some (.slice (some ⟨g, off, none⟩) bs.length c) := h1.cell 0
  have x1 : w.cell? ⟨q, 1, none⟩ = some (.int .i64 0) := h1.cell 1
  have m0 := h1.mark 0
  have hn : (k : Int) ≤ (bs.length : Int) := by omega
  have hc : (bs.length : Int) ≤ (c : Int) := by omega
  have hk0 : (0 : Int) ≤ (k : Int) := by omega
  have hq : g ≠ q := (h4 g off rfl).1
  obtain ⟨cur, hcur⟩ := (h4 g off rfl).2 hne
  have HA := Lib.hid h1; have HB := Lib.hid h2; have HK := Lib.hid hk
  have hfin : ∀ (off' cc : Nat) (u : Value) (W : World), W = w.setCell ⟨q, 0, none⟩ u → u = .slice (some ⟨g, off', none⟩) (bs.length - k) (c - k) → (off' = off + k ∨ bs.length = k) → TkOut q bs 0 k w (.returned (.slice (some ⟨g, off, none⟩) k cc)) W := by
    rintro off' cc u W rfl rfl ho
    have ht : Tch (· = q) w (w.setCell ⟨q, 0, none⟩ (.slice (some ⟨g, off', none⟩) (bs.length - k) (c - k))) := Tch.at w q 0 _
    have hB' : ∀ {B : Option Addr} {l : List UInt8}, Bs w B l → (∀ g' o', B = some ⟨g', o', none⟩ → g' = g) → Bs (w.setCell ⟨q, 0, none⟩ (.slice (some ⟨g, off', none⟩) (bs.length - k) (c - k))) B l := fun hB hg' => hB.tch ht fun g' o' e _ e2 => hq (by rw [← hg' g' o' e]; exact e2)
    refine TkOut.ok hk (hB' (h2.take k) fun g' o' e => by injection e with e; injection e with e _; exact e.symm) ⟨some ⟨g, off', none⟩, c - k, ?_, ?_, ?_, ?_⟩ ht
    · rw [List.length_drop]; simpa using h1.put 0 (.slice (some ⟨g, off', none⟩) (bs.length - k) (c - k))
    · rcases ho with rfl | ho
      · exact hB' (h2.drop k) fun g' o' e => by injection e with e; injection e with e _; exact e.symm
      · rw [List.drop_of_length_le (by omega)]; exact Bs.nil _ _
    · rw [List.length_drop]; omega
    · intro g' o' e; injection e with e; injection e with e _; rw [← e]; exact ⟨hq, fun _ => ⟨cur, (ht.block g (Array.getElem?_eq_some_iff.1 hcur).1 hq).trans hcur⟩⟩
  have HF := Lib.hid hfin
  clear h h1 h2 h4 hh hk hfin hcur cur
  go_enter Tryz.func27, Tryz.ntmps27
  go_wp2_with fail
  · go_ret
    exact HF.out off _ _ _ rfl (by rw [h, Nat.sub_self]) (.inr (by have := HK.out; omega))
  · go_ret
    exact HF.out _ _ _ _ rfl rfl (.inl rfl)

theorem take_in (q k : Nat) (bs : List UInt8) (e : Int) (w : World) (h : RsAt w q bs e) (hk : 1 ≤ k ∧ k ≤ 1000000) : Calls Tryz.prog 27 #[.pointer (some ⟨q, 0, none⟩), .int .i64 k] w (TkOut q bs e k w) := by
  by_cases he : e = 0
  · subst he
    rcases Nat.lt_or_ge bs.length k with hl | hl
    · exact take_short q k bs w h hl hk.2
    · exact take_ok q k bs w h hl (by rintro rfl; simp at hl; omega)
  · exact take_err q k bs e w h he
theorem wrap_byte64 (b : UInt8) : IntKind.u64.wrap (b.toNat : Int) = (b.toNat : Int) := by have : b.toNat < 256 := b.toNat_lt; rw [IntKind.wrap_u64]; omega
/-- numbers of so many bytes -/
theorem val_bound {l : List UInt8} {k : Nat} (h : l.length ≤ k) : val l < 256 ^ k := Nat.lt_of_lt_of_le (val_lt l) (Nat.pow_le_pow_right (by decide) h)
theorem val_take_succ {l : List UInt8} {i : Nat} (h : i < l.length) : val (l.take (i + 1)) = val (l.take i) + l[i].toNat * 256 ^ i := by
  rw [List.take_add_one, List.getElem?_eq_getElem h, Option.toList_some, val_snoc, List.length_take, Nat.min_eq_left (by omega)]
def NmOut (q : Nat) (bs : List UInt8) (e : Int) (k : Nat) (w : World) (en : Ending) (w' : World) : Prop :=
  en = .returned (.int .u64 (val (tk bs e k).1 : Nat)) ∧ RsAt w' q (tk bs e k).2.1 (tk bs e k).2.2 ∧ Tch (· = q) w w'
-- octets.rest.number
set_option maxRecDepth 100000 in
set_option maxHeartbeats 2000000 in
theorem number_in (q k : Nat) (bs : List UInt8) (e : Int) (w : World) (h : RsAt w q bs e) (hk : 1 ≤ k ∧ k ≤ 8) : Calls Tryz.prog 51 #[.pointer (some ⟨q, 0, none⟩), .int .i64 k] w (NmOut q bs e k w) := by
  have HH := Lib.hid (take_in q k bs e w h ⟨hk.1, by omega⟩)
  have HK := Lib.hid hk
  clear h hk
  go_enter Tryz.func51, Tryz.ntmps51
  go_wp2_with fail
  refine HH.out.mono ?_
  rintro en w1 ⟨⟨A, c, rfl, hb, _⟩, hr, ht⟩
  obtain ⟨l, hl⟩ : ∃ l, (tk bs e k).1 = l := ⟨_, rfl⟩
  have hlk : l.length ≤ 8 := by rw [← hl]; exact Nat.le_trans (tk_len bs e k) HK.out.2
  have hfin : NmOut q bs e k w (.returned (.int .u64 (val l : Nat))) w1 := ⟨by rw [hl], hr, ht⟩
  rw [hl] at hb ⊢
  have HB := Lib.hid hb; have HF := Lib.hid hfin
  have hlk' : (l.length : Int) ≤ 8 := by omega
  clear hb hr ht hfin hl HH HK
  go_wp2_with fail
  go_loopw [5, 12] (fun n i wr => ∃ j : Nat, j ≤ l.length ∧ i = .int .i64 j ∧ n = .int .u64 (val (l.take j) : Nat) ∧ wr = w1) (fun _ i _ => (l.length - intOf i).toNat)
  case atStart => exact ⟨0, by omega, rfl, rfl, rfl⟩
  case round =>
    obtain ⟨j, hj, rfl, rfl, hw⟩ := hrel
    rw [hw]
    clear hw
    by_cases h : j < l.length
    · have h' : (j : Int) < (l.length : Int) := by omega
      have hj0 : (0 : Int) ≤ (j : Int) := by omega
      obtain ⟨g, off, hA, _, _⟩ := HB.out (by rintro rfl; simp at h)
      subst hA
      have x0 : w1.cell? ⟨g, off + j, none⟩ = some (byteV l[j]) := HB.out.cell h
      have hv := val_take_succ h
      have ho := or_byte (val (l.take j)) l[j].toNat j (by have := val_lt (l.take j); rwa [List.length_take, Nat.min_eq_left (by omega)] at this) l[j].toNat_lt (by omega)
      rw [← hv] at ho
      unfold byteV at x0
      have HO := Lib.hid ho
      clear ho hv
      go_wp2_with fail
      go_roundw
      case rel => exact ⟨j + 1, by omega, by go_num, by rw [wrap_byte64, HO.out], by first | rfl | trivial⟩
      case measure => simp [intOf]; omega
    · have h' : ¬ (j : Int) < (l.length : Int) := by omega
      have hjl : j = l.length := by omega
      subst hjl
      go_wp2_with fail
      go_ret
      exact HF.out

/-- a reader -/
structure RdAt (w : World) (p q : Nat) (bs : List UInt8) (e : Int) : Prop where
  own : Arr w p 64 #[.pointer (some ⟨q, 0, none⟩)]
  rest : RsAt w q bs e
theorem RdAt.ne {w : World} {p q : Nat} {bs : List UInt8} {e : Int} (h : RdAt w p q bs e) : p ≠ q := by
  rintro rfl
  obtain ⟨A, c, h1, _⟩ := h.rest.ex
  have h2 := h.own
  rw [Arr] at h1 h2
  rw [h1] at h2
  injection h2 with h2
  injection h2 with h2
  simp at h2
theorem RdAt.keep {w w' : World} {p q : Nat} {bs : List UInt8} {e : Int} (h : RdAt w p q bs e) (hb : Below w.heap.size w w') : RdAt w' p q bs e := ⟨h.own.keep hb, h.rest.keep hb⟩
theorem RdAt.next {w w' : World} {p q : Nat} {bs bs' : List UInt8} {e e' : Int} (h : RdAt w p q bs e) (hr : RsAt w' q bs' e') (ht : Tch (· = q) w w') : RdAt w' p q bs' e' := ⟨ht.arr h.own h.ne, hr⟩
set_option maxRecDepth 100000 in
set_option maxHeartbeats 1000000 in
theorem made_in (p q : Nat) (w : World) (h : w.cell? ⟨p, 0, none⟩ = some (.pointer (some ⟨q, 0, none⟩))) : Calls Tryz.prog 25 #[.pointer (some ⟨p, 0, none⟩)] w fun e w' => e = .returned (.bool true) ∧ w' = w := by
  go_enter Tryz.func25, Tryz.ntmps25
  go_wp2_with fail
  go_wp2_with fail
  go_ret
  exact ⟨rfl, rfl⟩
-- octets.Reader.next
set_option maxRecDepth 100000 in
set_option maxHeartbeats 1000000 in
theorem next_in (p q k : Nat) (bs : List UInt8) (e : Int) (w : World) (h : RdAt w p q bs e) (hk : 1 ≤ k ∧ k ≤ 8) : Calls Tryz.prog 26 #[.pointer (some ⟨p, 0, none⟩), .int .i64 k] w (NmOut q bs e k w) := by
  have x0 : w.cell? ⟨p, 0, none⟩ = some (.pointer (some ⟨q, 0, none⟩)) := h.own.cell 0
  have HN := Lib.hid (number_in q k bs e w h.rest hk)
  clear h hk
  go_enter Tryz.func26, Tryz.ntmps26
  go_wp2_with fail
  refine (made_in p q w x0).mono ?_
  rintro en w1 ⟨rfl, hw⟩
  rw [hw]
  clear hw w1
  go_wp2_with fail
  refine HN.out.mono ?_
  rintro en w1 h1
  obtain ⟨rfl, h2, h3⟩ := h1
  have HF := Lib.hid (show NmOut q bs e k w _ w1 from ⟨rfl, h2, h3⟩)
  clear h2 h3
  go_wp2_with fail
  go_ret
  exact HF.out

end Go.Proofs.YtkmpchffflemcaaGreatDoor.Oc
end

/- Layer 1: octets: bytes appended, cloned; a reader's numbers. -/
section
set_option linter.unusedVariables false
set_option linter.unusedSimpArgs false
namespace Go.Proofs.YtkmpchffflemcaaGreatDoor.Oc
open Go.RowKit

theorem _root_.Go.Proofs.YtkmpchffflemcaaGreatDoor.Blk.bs {w : World} {g : Nat} {bs : List UInt8} (h : Blk w 5 g bs) : Bs w (some ⟨g, 0, none⟩) bs := fun _ => ⟨g, 0, rfl, h.lt, fun i u hu => by
  obtain ⟨cur, h1, h2⟩ := h
  rw [Nat.zero_add, show w.cell? ⟨g, i, none⟩ = cur[i]? from by simp [World.cell?, h1]]
  exact h2 i u hu⟩
theorem own_blk {w : World} {base g cap n : Nat} {bs : List UInt8} (h : w.ownsRow base 5 1 (.slice (some ⟨g, 0, none⟩) n cap) n (bytesV bs)) (hn : bs.length = n) : Blk w 5 g bs ∧ n ≤ cap ∧ base ≤ g ∧ n ≤ maxLen := by
  rcases h.2 with ⟨h0, _⟩ | ⟨g', cap', cur, hv, hb, hh, h1, h2, h3, h4⟩
  · cases h0
  · injection hv with e1 _ e2
    injection e1 with e1; injection e1 with e1
    subst e1 e2
    refine ⟨⟨cur, hh, fun j u hu => ?_⟩, h1, hb, Nat.le_trans h1 h2⟩
    have hj := (List.getElem?_eq_some_iff.1 hu).1
    rw [bytesV_len] at hj
    rw [← hu, ← h4, List.getElem?_take, if_pos (by omega), Array.getElem?_toList]
theorem nil_no (ad : Addr) (n c : Nat) (W : World) : (binOp BinOp.eql 22 (.slice (some ad) n c) (.slice none 0 0)).run Tryz.prog W = .ok (.bool false) W := by kernel_rfl
theorem nil_yes (n c : Nat) (W : World) : (binOp BinOp.eql 22 (.slice none n c) (.slice none 0 0)).run Tryz.prog W = .ok (.bool true) W := by kernel_rfl
/-- bytes behind bytes, where there is no room -/
theorem wp_app1 (w : World) {o : Oper} {a : Act} {K : Act → World → Prop} {Q : Exit → Act → World → Prop} (s x : Operand)
    (hop : o.op = Op.call { callee := Callee.builtin Builtin.append, args := #[s, x], argTypes := #[22, 22] }) (bs cs : List UInt8) (A : Option Addr) (n c : Nat) (hs : a.eval s = .slice A n c) (hn : n = bs.length) (hA : A = none → n = 0 ∧ c = 0) (hB : Bs w A bs)
    (ad : Addr) (m cp : Nat) (hx : a.eval x = .slice (some ad) m cp) (hm : m = cs.length) (hC : Bs w (some ad) cs) (hfull : c < n + m) (hl : n + m ≤ 70368744177664)
    (hK : ∀ g cp' w', w.heap.size ≤ g → Blk w' 5 g (bs ++ cs) → Below w.heap.size w w' → n + m ≤ cp' → K (a.put o.dst (.slice (some ⟨g, 0, none⟩) (n + m) cp')) w') : Oper.wp Tryz.prog o a w K Q := by
  obtain ⟨i0, hi, hz0, hz1, hz2⟩ := info_parts u8_info
  subst hn hm
  have b1 : bs.length + cs.length ≤ maxLen := by unfold maxLen; omega
  have b2 : (bs.length + cs.length) * 1 ≤ 140737488355328 := by omega
  have hnews : (bytesV cs).length = cs.length * 1 := by rw [bytesV_len, Nat.mul_one]
  have hgo : ∃ v' w', (Builtin.append_ #[22, 22] o.type #[.slice A bs.length c, .slice (some ad) cs.length cp]).run Tryz.prog w = .ok v' w' ∧ w'.ownsRow w.heap.size 5 1 v' (bs.length + cs.length) (bytesV bs ++ bytesV cs) ∧ w.grownBy w' none := by
    cases A with
    | some b =>
      obtain ⟨v', w', hrun, r1, r2⟩ := run_append_arg_grows (P := Tryz.prog) w 22 o.type 5 i0 (.int .u8 0) 1 1 Tryz.underlying22 hi hz0 hz1 hz2 rfl (by decide) b bs.length c (bytesV bs) (by rw [bytesV_len, Nat.mul_one]) hB.read ad cs.length cp (bytesV cs) hnews hC.read hfull b1 b2
      exact ⟨v', w', hrun, r1, r2⟩
    | none =>
      obtain ⟨h0, rfl⟩ := hA rfl
      obtain rfl := List.eq_nil_of_length_eq_zero h0
      obtain ⟨v', w', hrun, r1, r2, _⟩ := run_append_own (P := Tryz.prog) w w.heap.size 22 o.type 5 i0 (.int .u8 0) 1 1 Tryz.underlying22 hi hz0 hz1 hz2 rfl (by decide) (.slice none 0 0) 0 [] (World.ownsRow_nil w _ 5 1) ad cs.length cp (bytesV cs) hnews hC.read (bytesV_one cs) (by simpa using b1) (by simpa using b2) (Nat.le_refl _)
      exact ⟨v', w', hrun, r1, r2⟩
  obtain ⟨v', w', hrun, ho, hgr⟩ := hgo
  have hne : v' ≠ .slice none 0 0 := by
    rintro rfl
    rcases ho.2 with ⟨_, h0⟩ | ⟨_, _, _, h0, _⟩
    · omega
    · cases h0
  obtain ⟨g, cap, rfl⟩ := own_forms ho hne
  rw [← bytesV_app] at ho
  obtain ⟨h1, h2, h3, _⟩ := own_blk ho (by rw [List.length_append])
  unfold Oper.wp execOp
  simp only [hop, resolve, invoke, builtin, Sem.run_bind, Sem.run_pure, Result.andThen_ok, List.map_toArray, List.map_cons, List.map_nil, hs, hx, hrun]
  exact hK g cap w' h3 h1 (Below.grown (Below.refl _ _) hgr (Nat.le_refl _) (by simp)) h2
theorem wp_app (w : World) {ops : Array Oper} {rest : List Oper} {o : Oper} {a : Act} {Q : Exit → Act → World → Prop} (hg : o.guard = none) (s x : Operand)
    (hop : o.op = Op.call { callee := Callee.builtin Builtin.append, args := #[s, x], argTypes := #[22, 22] }) (bs cs : List UInt8) (A : Option Addr) (n c : Nat) (hs : a.eval s = .slice A n c) (hn : n = bs.length) (hA : A = none → n = 0 ∧ c = 0) (hB : Bs w A bs)
    (ad : Addr) (m cp : Nat) (hx : a.eval x = .slice (some ad) m cp) (hm : m = cs.length) (hC : Bs w (some ad) cs) (hfull : c < n + m) (hl : n + m ≤ 70368744177664)
    (hK : ∀ g cp' w', w.heap.size ≤ g → Blk w' 5 g (bs ++ cs) → Below w.heap.size w w' → n + m ≤ cp' → wpList Tryz.prog ops Q rest (a.put o.dst (.slice (some ⟨g, 0, none⟩) (n + m) cp')) w') : wpList Tryz.prog ops Q (o :: rest) a w :=
  wpList_plain hg fun _ hKK => wp_app1 w s x hop bs cs A n c hs hn hA hB ad m cp hx hm hC hfull hl fun g cp' w' a b c d => hKK _ _ (hK g cp' w' a b c d)
def ClOut (bs : List UInt8) (w : World) (e : Ending) (w' : World) : Prop :=
  ∃ A c, e = .returned (.slice A bs.length c) ∧ (bs ≠ [] → ∃ g, A = some ⟨g, 0, none⟩ ∧ w.heap.size ≤ g ∧ Blk w' 5 g bs) ∧ bs.length ≤ c ∧ (∀ g off, A = some ⟨g, off, none⟩ → w.heap.size ≤ g ∧ g < w'.heap.size) ∧ (A = none → c = 0) ∧ Below w.heap.size w w'
theorem ClOut.bs {bs : List UInt8} {w w' : World} {A : Option Addr} (h : bs ≠ [] → ∃ g, A = some ⟨g, 0, none⟩ ∧ w.heap.size ≤ g ∧ Blk w' 5 g bs) : Bs w' A bs := fun hne => by
  obtain ⟨g, rfl, _, hb⟩ := h hne
  exact hb.bs hne
-- slices.Clone
set_option maxRecDepth 100000 in
set_option maxHeartbeats 2000000 in
theorem Clone_some (bs : List UInt8) (g off c : Nat) (w : World) (hB : Bs w (some ⟨g, off, none⟩) bs) (hne : bs ≠ []) (hl : bs.length ≤ 70368744177664) : Calls Tryz.prog 24 #[.slice (some ⟨g, off, none⟩) bs.length c] w (ClOut bs w) := by
  have hpos : 0 < bs.length := List.length_pos_iff.2 hne
  have HB := Lib.hid hB; have HN := Lib.hid hne
  have hq := nil_no ⟨g, off, none⟩ bs.length c
  clear hB hne
  go_enter Tryz.func24, Tryz.ntmps24
  go_wp2_with (refine wp_app _ rfl _ _ rfl [] bs (some ⟨w.heap.size, 0, none⟩) 0 0 rfl rfl (by simp) (Bs.nil _ _) ⟨g, off, none⟩ bs.length c rfl rfl (HB.out.keep (ext_alloc (Below.refl _ _) _)) (by omega) (by omega) ?_; intro g5 c5 w5 hg5 hb5 hx5 hc5; have HG5 := Lib.hid hg5; have HB5 := Lib.hid hb5; have HX5 := Lib.hid hx5; have HC5 := Lib.hid hc5; clear hg5 hb5 hx5 hc5)
  go_ret
  have h5 := HG5.out
  simp at h5
  exact ⟨some ⟨g5, 0, none⟩, c5, by simp, fun _ => ⟨g5, rfl, by omega, HB5.out⟩, by simpa using HC5.out, (fun g' o' e => by injection e with e; injection e with e; have := HB5.out.lt; omega), (fun e => by cases e), ext_trans (ext_alloc (Below.refl _ _) _) HX5.out⟩
set_option maxRecDepth 100000 in
set_option maxHeartbeats 2000000 in
theorem Clone_none (c : Nat) (w : World) : Calls Tryz.prog 24 #[.slice none 0 c] w (ClOut [] w) := by
  have hq := nil_yes 0 c
  go_enter Tryz.func24, Tryz.ntmps24
  go_wp2_with fail
  go_ret
  exact ⟨none, 0, rfl, fun h => absurd rfl h, Nat.le_refl _, (fun g' o' e => by cases e), fun _ => rfl, Below.refl _ _⟩
set_option maxRecDepth 100000 in
set_option maxHeartbeats 2000000 in
theorem Clone_empty (g off c : Nat) (w : World) : Calls Tryz.prog 24 #[.slice (some ⟨g, off, none⟩) 0 c] w (ClOut [] w) := by
  have hq := nil_no ⟨g, off, none⟩ 0 c
  go_enter Tryz.func24, Tryz.ntmps24
  go_wp2_with fail
  go_ret
  exact ⟨some ⟨w.heap.size, 0, none⟩, 0, rfl, fun h => absurd rfl h, Nat.le_refl _, (fun g' o' e => by injection e with e; injection e with e; subst e; exact ⟨Nat.le_refl _, by simp⟩), (fun e => by cases e), ext_alloc (Below.refl _ _) _⟩
theorem Clone_in (bs : List UInt8) (A : Option Addr) (c : Nat) (w : World) (hB : Bs w A bs) (hA : okA A) (hl : bs.length ≤ 70368744177664) : Calls Tryz.prog 24 #[.slice A bs.length c] w (ClOut bs w) := by
  by_cases hne : bs = []
  · subst hne
    cases A with
    | none => exact Clone_none c w
    | some ad => obtain ⟨g, off, rfl⟩ := hA ad rfl; exact Clone_empty g off c w
  · obtain ⟨g, off, rfl, _⟩ := hB hne
    exact Clone_some bs g off c w hB hne hl

-- octets.Of
def OfOut (bs : List UInt8) (w : World) (e : Ending) (w' : World) : Prop := ∃ p q, e = .returned (.pointer (some ⟨p, 0, none⟩)) ∧ RdAt w' p q bs 0 ∧ w.heap.size ≤ p ∧ w.heap.size ≤ q ∧ Below w.heap.size w w'
set_option maxRecDepth 100000 in
set_option maxHeartbeats 2000000 in
theorem Of_in (bs : List UInt8) (A : Option Addr) (c : Nat) (w : World) (hB : Bs w A bs) (hA : okA A) (hl : bs.length ≤ 70368744177664) : Calls Tryz.prog 12 #[.slice A bs.length c] w (OfOut bs w) := by
  have HC := Lib.hid (Clone_in bs A c w hB hA hl)
  clear hB hA
  go_enter Tryz.func12, Tryz.ntmps12
  go_wp2_with fail
  refine HC.out.mono ?_
  rintro en w1 ⟨B, d, rfl, h1, h2, h3, h4, h5⟩
  have HB := Lib.hid (ClOut.bs (w := w) h1); have HL := Lib.hid h2; have H3 := Lib.hid h3; have H5 := Lib.hid h5; have HBL := Lib.hid h1
  clear h1 h2 h3 h4 h5 HC
  go_wp2_with fail
  go_ret
  have hz := H5.out.size
  have hb : Below w1.heap.size w1 ((w1.alloc (.cells #[.slice B bs.length d, .int .i64 0] 62)).alloc (.cells #[.pointer (some ⟨w1.heap.size, 0, none⟩)] 64)) := ext_alloc (ext_alloc (Below.refl _ _) _) _
  exact ⟨w1.heap.size + 1, w1.heap.size, by simp, ⟨Arr.new (by simp), B, d, (Arr.fresh w1 _ _).alloc _, HB.out.keep hb, HL.out, fun g off e => ⟨by have := (H3.out g off e).2; omega, fun hne => by obtain ⟨g', q1, _, q2⟩ := HBL.out hne; rw [q1] at e; injection e with e; injection e with e _; subst e; obtain ⟨cur, q3, _⟩ := q2; exact ⟨cur, (hb.block _ (Array.getElem?_eq_some_iff.1 q3).1).trans q3⟩⟩⟩, by omega, hz, ext_trans H5.out hb⟩

def RdOut (p q : Nat) (bs : List UInt8) (e : Int) (k : Nat) (kd : IntKind) (w : World) (en : Ending) (w' : World) : Prop :=
  en = .returned (.int kd (val (tk bs e k).1 : Nat)) ∧ RdAt w' p q (tk bs e k).2.1 (tk bs e k).2.2 ∧ Tch (· = q) w w'
-- octets.Reader.Byte
set_option maxRecDepth 100000 in
set_option maxHeartbeats 1000000 in
theorem RByte_in (p q : Nat) (bs : List UInt8) (e : Int) (w : World) (h : RdAt w p q bs e) : Calls Tryz.prog 153 #[.pointer (some ⟨p, 0, none⟩)] w (RdOut p q bs e 1 .u8 w) := by
  have HH := Lib.hid h
  have HN := Lib.hid (next_in p q 1 bs e w h (by decide))
  clear h
  go_enter Tryz.func153, Tryz.ntmps153
  go_wp2_with fail
  refine HN.out.mono ?_
  rintro en w1 ⟨rfl, h2, h3⟩
  have hv := val_bound (tk_len bs e 1)
  have hw : IntKind.u8.wrap ((val (tk bs e 1).1 : Nat) : Int) = ((val (tk bs e 1).1 : Nat) : Int) := by rw [IntKind.wrap_u8']; omega
  have HF := Lib.hid (show RdOut p q bs e 1 .u8 w _ w1 from ⟨rfl, HH.out.next h2 h3, h3⟩)
  clear h2 h3 hv
  go_wp2_with fail
  go_ret
  exact HF.out
-- octets.Reader.Two
set_option maxRecDepth 100000 in
set_option maxHeartbeats 1000000 in
theorem RTwo_in (p q : Nat) (bs : List UInt8) (e : Int) (w : World) (h : RdAt w p q bs e) : Calls Tryz.prog 14 #[.pointer (some ⟨p, 0, none⟩)] w (RdOut p q bs e 2 .u16 w) := by
  have HH := Lib.hid h
  have HN := Lib.hid (next_in p q 2 bs e w h (by decide))
  clear h
  go_enter Tryz.func14, Tryz.ntmps14
  go_wp2_with fail
  refine HN.out.mono ?_
  rintro en w1 ⟨rfl, h2, h3⟩
  have hv := val_bound (tk_len bs e 2)
  have hw : IntKind.u16.wrap ((val (tk bs e 2).1 : Nat) : Int) = ((val (tk bs e 2).1 : Nat) : Int) := by rw [IntKind.wrap_u16]; omega
  have HF := Lib.hid (show RdOut p q bs e 2 .u16 w _ w1 from ⟨rfl, HH.out.next h2 h3, h3⟩)
  clear h2 h3 hv
  go_wp2_with fail
  go_ret
  exact HF.out
-- octets.Reader.Four
set_option maxRecDepth 100000 in
set_option maxHeartbeats 1000000 in
theorem RFour_in (p q : Nat) (bs : List UInt8) (e : Int) (w : World) (h : RdAt w p q bs e) : Calls Tryz.prog 154 #[.pointer (some ⟨p, 0, none⟩)] w (RdOut p q bs e 4 .u32 w) := by
  have HH := Lib.hid h
  have HN := Lib.hid (next_in p q 4 bs e w h (by decide))
  clear h
  go_enter Tryz.func154, Tryz.ntmps154
  go_wp2_with fail
  refine HN.out.mono ?_
  rintro en w1 ⟨rfl, h2, h3⟩
  have hv := val_bound (tk_len bs e 4)
  have hw : IntKind.u32.wrap ((val (tk bs e 4).1 : Nat) : Int) = ((val (tk bs e 4).1 : Nat) : Int) := by rw [IntKind.wrap_u32']; omega
  have HF := Lib.hid (show RdOut p q bs e 4 .u32 w _ w1 from ⟨rfl, HH.out.next h2 h3, h3⟩)
  clear h2 h3 hv
  go_wp2_with fail
  go_ret
  exact HF.out
-- octets.Reader.Eight
set_option maxRecDepth 100000 in
set_option maxHeartbeats 1000000 in
theorem REight_in (p q : Nat) (bs : List UInt8) (e : Int) (w : World) (h : RdAt w p q bs e) : Calls Tryz.prog 204 #[.pointer (some ⟨p, 0, none⟩)] w (RdOut p q bs e 8 .u64 w) := by
  have HH := Lib.hid h
  have HN := Lib.hid (next_in p q 8 bs e w h (by decide))
  clear h
  go_enter Tryz.func204, Tryz.ntmps204
  go_wp2_with fail
  refine HN.out.mono ?_
  rintro en w1 ⟨rfl, h2, h3⟩
  have HF := Lib.hid (show RdOut p q bs e 8 .u64 w _ w1 from ⟨rfl, HH.out.next h2 h3, h3⟩)
  clear h2 h3
  go_wp2_with fail
  go_ret
  exact HF.out
set_option maxRecDepth 100000 in
set_option maxHeartbeats 1000000 in
theorem RLeft_in (p q : Nat) (bs : List UInt8) (e : Int) (w : World) (h : RdAt w p q bs e) : Calls Tryz.prog 13 #[.pointer (some ⟨p, 0, none⟩)] w fun en w' => en = .returned (.int .i64 bs.length) ∧ w' = w := by
  obtain ⟨A, c, h1, _⟩ := h.rest.ex
  have x0 : w.cell? ⟨p, 0, none⟩ = some (.pointer (some ⟨q, 0, none⟩)) := h.own.cell 0
  have x1 : w.cell? ⟨q, 0, none⟩ = some (.slice A bs.length c) := h1.cell 0
  clear h h1
  go_enter Tryz.func13, Tryz.ntmps13
  go_wp2_with fail
  refine (made_in p q w x0).mono ?_
  rintro en w1 ⟨rfl, hw⟩
  rw [hw]
  clear hw w1
  go_wp2_with fail
  go_ret
  exact ⟨rfl, rfl⟩
set_option maxRecDepth 100000 in
set_option maxHeartbeats 1000000 in
theorem RErr_in (p q : Nat) (bs : List UInt8) (e : Int) (w : World) (h : RdAt w p q bs e) : Calls Tryz.prog 206 #[.pointer (some ⟨p, 0, none⟩)] w fun en w' => en = .returned (.int .i64 e) ∧ w' = w := by
  obtain ⟨A, c, h1, _⟩ := h.rest.ex
  have x0 : w.cell? ⟨p, 0, none⟩ = some (.pointer (some ⟨q, 0, none⟩)) := h.own.cell 0
  have x1 : w.cell? ⟨q, 1, none⟩ = some (.int .i64 e) := h1.cell 1
  clear h h1
  go_enter Tryz.func206, Tryz.ntmps206
  go_wp2_with fail
  refine (made_in p q w x0).mono ?_
  rintro en w1 ⟨rfl, hw⟩
  rw [hw]
  clear hw w1
  go_wp2_with fail
  go_ret
  exact ⟨rfl, rfl⟩
/-- the first error; else whether all has been taken -/
def endE (bs : List UInt8) (e : Int) : Int := if e ≠ 0 then e else if bs = [] then 0 else 5
set_option maxRecDepth 100000 in
set_option maxHeartbeats 1000000 in
theorem REnd_in (p q : Nat) (bs : List UInt8) (e : Int) (w : World) (h : RdAt w p q bs e) : Calls Tryz.prog 157 #[.pointer (some ⟨p, 0, none⟩)] w fun en w' => en = .returned (.int .i64 (endE bs e)) ∧ w' = w := by
  obtain ⟨A, c, h1, _⟩ := h.rest.ex
  have x0 : w.cell? ⟨p, 0, none⟩ = some (.pointer (some ⟨q, 0, none⟩)) := h.own.cell 0
  have x1 : w.cell? ⟨q, 0, none⟩ = some (.slice A bs.length c) := h1.cell 0
  have HE := Lib.hid (RErr_in p q bs e w h)
  clear h h1
  by_cases c1 : e = 0
  · subst c1
    by_cases c2 : bs = []
    · subst c2
      go_enter Tryz.func157, Tryz.ntmps157
      go_wp2_with fail
      refine HE.out.mono ?_
      rintro en w1 ⟨rfl, hw⟩
      rw [hw]
      clear hw w1
      go_wp2_with fail
      go_ret
      exact ⟨rfl, rfl⟩
    · have hl : (0 : Int) < (bs.length : Int) := by have := List.length_pos_iff.2 c2; omega
      have hf : endE bs 0 = 5 := by simp [endE, c2]
      rw [hf]
      clear hf c2
      go_enter Tryz.func157, Tryz.ntmps157
      go_wp2_with fail
      refine HE.out.mono ?_
      rintro en w1 ⟨rfl, hw⟩
      rw [hw]
      clear hw w1
      go_wp2_with fail
      go_ret
      exact ⟨rfl, rfl⟩
  · have hf : endE bs e = e := by simp [endE, c1]
    have hb : (e == 0) = false := by simp [c1]
    rw [hf]
    clear hf c1
    go_enter Tryz.func157, Tryz.ntmps157
    go_wp2_with fail
    refine HE.out.mono ?_
    rintro en w1 ⟨rfl, hw⟩
    rw [hw]
    clear hw w1
    go_wp2_with fail
    go_ret
    exact ⟨rfl, rfl⟩

end Go.Proofs.YtkmpchffflemcaaGreatDoor.Oc
end

/- Layer 1: octets: a writer. -/
section
set_option linter.unusedVariables false
set_option linter.unusedSimpArgs false
namespace Go.Proofs.YtkmpchffflemcaaGreatDoor.Oc
open Go.RowKit

/-- a writer that has these bytes -/
structure WrAt (w : World) (p : Nat) (bs : List UInt8) : Prop where
  ex : ∃ A c, Arr w p 133 #[.slice A bs.length c] ∧ Bs w A bs ∧ (A = none → bs = [] ∧ c = 0) ∧ bs.length ≤ c ∧ okA A ∧ (∀ g off, A = some ⟨g, off, none⟩ → g ≠ p)
theorem WrAt.keep {w w' : World} {p : Nat} {bs : List UInt8} (h : WrAt w p bs) (hb : Below w.heap.size w w') : WrAt w' p bs := by
  obtain ⟨A, c, h1, h2, h3⟩ := h.ex
  exact ⟨A, c, h1.keep hb, h2.keep hb, h3⟩
theorem WrAt.fresh (w : World) : WrAt (w.alloc (.cells #[.slice none 0 0] 133)) w.heap.size [] := ⟨none, 0, Arr.fresh _ _ _, Bs.nil _ _, fun _ => ⟨rfl, rfl⟩, Nat.le_refl _, okA_none, fun g off e => by cases e⟩
def AdOut (p : Nat) (bs : List UInt8) (w : World) (e : Ending) (w' : World) : Prop := (∃ u, e = .returned u) ∧ WrAt w' p bs ∧ Tch (· = p) w w'

-- octets.Writer.add
set_option maxRecDepth 100000 in
set_option maxHeartbeats 2000000 in
theorem add_in (p : Nat) (bs cs : List UInt8) (ad : Addr) (d : Nat) (w : World) (h : WrAt w p bs) (hc : Bs w (some ad) cs) (hne : cs ≠ []) (hl : bs.length + cs.length ≤ 70000000) :
    Calls Tryz.prog 209 #[.pointer (some ⟨p, 0, none⟩), .slice (some ad) cs.length d] w (AdOut p (bs ++ cs) w) := by
  obtain ⟨A, c, h1, h2, h3, h4, h5, h6⟩ := h.ex
  have x0 : w.cell? ⟨p, 0, none⟩ = some (.slice A bs.length c) := h1.cell 0
  have m0 := h1.mark 0
  have hpl := h1.lt
  have hcl : 0 < cs.length := List.length_pos_iff.2 hne
  have hcap : (bs.length : Int) ≤ (c : Int) := by omega
  have H1 := Lib.hid h1; have H2 := Lib.hid h2; have H3 := Lib.hid h3; have H5 := Lib.hid h5; have H6 := Lib.hid h6; have HC := Lib.hid hc
  clear h h1 h2 h3 h5 h6 hc
  go_enter Tryz.func209, Tryz.ntmps209
  go_wp2_with fail
  refine region_any_drew (by kernel_rfl) ?_
  refine AnyTill.any (S := (fun w' => w'.cell? ⟨p, 0, none⟩ = some (.slice A bs.length c))) (t := 20) _ _ _ _ ?_
  have hHeld := (show (fun w' => w'.cell? ⟨p, 0, none⟩ = some (.slice A bs.length c)) w.drew from x0)
  refine till_take (i := 0) (oi := ?o1) (d := (some 6)) (v := ?v1) ?hi1 (by kernel_rfl) (by kernel_rfl) (by kernel_rfl) (by kernel_rfl) (by kernel_rfl) (fun _ _ _ h => h) ?hd1 ?hw1 ?hy1 hHeld ?_
  case hi1 => (simp only [List.getElem?_toArray, List.getElem?_cons_zero]; exact rfl)
  case hd1 => rfl
  case hw1 => rfl
  case hy1 => (intro w hSw; (try dsimp only at hSw); go_simp; try with_reducible rfl)
  try simp only [Act.put, List.setIfInBounds_toArray, List.set_cons_zero, List.set_cons_succ]
  refine till_take (i := 1) (oi := ?o2) (d := (some 7)) (v := ?v2) ?hi2 (by kernel_rfl) (by kernel_rfl) (by kernel_rfl) (by kernel_rfl) (by kernel_rfl) (fun _ _ _ h => h) ?hd2 ?hw2 ?hy2 hHeld ?_
  case hi2 => (simp only [List.getElem?_toArray, List.getElem?_cons_zero, List.getElem?_cons_succ]; exact rfl)
  case hd2 => rfl
  case hw2 => rfl
  case hy2 => (intro w hSw; (try dsimp only at hSw); go_simp; try with_reducible rfl)
  try simp only [Act.put, List.setIfInBounds_toArray, List.set_cons_zero, List.set_cons_succ]
  refine till_take (i := 2) (oi := ?o3) (d := (some 8)) (v := ?v3) ?hi3 (by kernel_rfl) (by kernel_rfl) (by kernel_rfl) (by kernel_rfl) (by kernel_rfl) (fun _ _ _ h => h) ?hd3 ?hw3 ?hy3 hHeld ?_
  case hi3 => (simp only [List.getElem?_toArray, List.getElem?_cons_zero, List.getElem?_cons_succ]; exact rfl)
  case hd3 => rfl
  case hw3 => rfl
  case hy3 => (intro w hSw; (try dsimp only at hSw); go_simp; try with_reducible rfl)
  try simp only [Act.put, List.setIfInBounds_toArray, List.set_cons_zero, List.set_cons_succ]
  refine till_take (i := 3) (oi := ?o4) (d := (some 9)) (v := ?v4) ?hi4 (by kernel_rfl) (by kernel_rfl) (by kernel_rfl) (by kernel_rfl) (by kernel_rfl) (fun _ _ _ h => h) ?hd4 ?hw4 ?hy4 hHeld ?_
  case hi4 => (simp only [List.getElem?_toArray, List.getElem?_cons_zero, List.getElem?_cons_succ]; exact rfl)
  case hd4 => rfl
  case hw4 => rfl
  case hy4 => (intro w hSw; (try dsimp only at hSw); go_simp; try with_reducible rfl)
  try simp only [Act.put, List.setIfInBounds_toArray, List.set_cons_zero, List.set_cons_succ]
  refine till_take (i := 4) (oi := ?o5) (d := (some 10)) (v := ?v5) ?hi5 (by kernel_rfl) (by kernel_rfl) (by kernel_rfl) (by kernel_rfl) (by kernel_rfl) (fun _ _ _ h => h) ?hd5 ?hw5 ?hy5 hHeld ?_
  case hi5 => (simp only [List.getElem?_toArray, List.getElem?_cons_zero, List.getElem?_cons_succ]; exact rfl)
  case hd5 => rfl
  case hw5 => rfl
  case hy5 => (intro w hSw; (try dsimp only at hSw); go_simp; try with_reducible rfl)
  try simp only [Act.put, List.setIfInBounds_toArray, List.set_cons_zero, List.set_cons_succ]
  refine till_take (i := 5) (oi := ?o6) (d := (some 11)) (v := ?v6) ?hi6 (by kernel_rfl) (by kernel_rfl) (by kernel_rfl) (by kernel_rfl) (by kernel_rfl) (fun _ _ _ h => h) ?hd6 ?hw6 ?hy6 hHeld ?_
  case hi6 => (simp only [List.getElem?_toArray, List.getElem?_cons_zero, List.getElem?_cons_succ]; exact rfl)
  case hd6 => rfl
  case hw6 => rfl
  case hy6 => (intro w hSw; (try dsimp only at hSw); go_simp; try with_reducible rfl)
  try simp only [Act.put, List.setIfInBounds_toArray, List.set_cons_zero, List.set_cons_succ]
  refine till_take (i := 6) (oi := ?o7) (d := (some 12)) (v := ?v7) ?hi7 (by kernel_rfl) (by kernel_rfl) (by kernel_rfl) (by kernel_rfl) (by kernel_rfl) (fun _ _ _ h => h) ?hd7 ?hw7 ?hy7 hHeld ?_
  case hi7 => (simp only [List.getElem?_toArray, List.getElem?_cons_zero, List.getElem?_cons_succ]; exact rfl)
  case hd7 => rfl
  case hw7 => rfl
  case hy7 => (intro w hSw; (try dsimp only at hSw); go_simp; try with_reducible rfl)
  try simp only [Act.put, List.setIfInBounds_toArray, List.set_cons_zero, List.set_cons_succ]
  refine till_take (i := 7) (oi := ?o8) (d := (some 13)) (v := ?v8) ?hi8 (by kernel_rfl) (by kernel_rfl) (by kernel_rfl) (by kernel_rfl) (by kernel_rfl) (fun _ _ _ h => h) ?hd8 ?hw8 ?hy8 hHeld ?_
  case hi8 => (simp only [List.getElem?_toArray, List.getElem?_cons_zero, List.getElem?_cons_succ]; exact rfl)
  case hd8 => rfl
  case hw8 => rfl
  case hy8 => (intro w hSw; (try dsimp only at hSw); go_simp; try with_reducible rfl)
  try simp only [Act.put, List.setIfInBounds_toArray, List.set_cons_zero, List.set_cons_succ]
  refine till_take (i := 8) (oi := ?o9) (d := (some 14)) (v := ?v9) ?hi9 (by kernel_rfl) (by kernel_rfl) (by kernel_rfl) (by kernel_rfl) (by kernel_rfl) (fun _ _ _ h => h) ?hd9 ?hw9 ?hy9 hHeld ?_
  case hi9 => (simp only [List.getElem?_toArray, List.getElem?_cons_zero, List.getElem?_cons_succ]; exact rfl)
  case hd9 => rfl
  case hw9 => rfl
  case hy9 => (intro w hSw; (try dsimp only at hSw); go_simp; try with_reducible rfl)
  try simp only [Act.put, List.setIfInBounds_toArray, List.set_cons_zero, List.set_cons_succ]
  refine till_take (i := 9) (oi := ?o10) (d := (some 15)) (v := ?v10) ?hi10 (by kernel_rfl) (by kernel_rfl) (by kernel_rfl) (by kernel_rfl) (by kernel_rfl) (fun _ _ _ h => h) ?hd10 ?hw10 ?hy10 hHeld ?_
  case hi10 => (simp only [List.getElem?_toArray, List.getElem?_cons_zero, List.getElem?_cons_succ]; exact rfl)
  case hd10 => rfl
  case hw10 => rfl
  case hy10 => (intro w hSw; (try dsimp only at hSw); go_simp; try with_reducible rfl)
  try simp only [Act.put, List.setIfInBounds_toArray, List.set_cons_zero, List.set_cons_succ]
  refine till_take (i := 10) (oi := ?o11) (d := (some 16)) (v := ?v11) ?hi11 (by kernel_rfl) (by kernel_rfl) (by kernel_rfl) (by kernel_rfl) (by kernel_rfl) (fun _ _ _ h => h) ?hd11 ?hw11 ?hy11 hHeld ?_
  case hi11 => (simp only [List.getElem?_toArray, List.getElem?_cons_zero, List.getElem?_cons_succ]; exact rfl)
  case hd11 => rfl
  case hw11 => rfl
  case hy11 => (intro w hSw; (try dsimp only at hSw); go_simp; try with_reducible rfl)
  try simp only [Act.put, List.setIfInBounds_toArray, List.set_cons_zero, List.set_cons_succ]
  refine till_take (i := 11) (oi := ?o12) (d := (some 17)) (v := ?v12) ?hi12 (by kernel_rfl) (by kernel_rfl) (by kernel_rfl) (by kernel_rfl) (by kernel_rfl) (fun _ _ _ h => h) ?hd12 ?hw12 ?hy12 hHeld ?_
  case hi12 => (simp only [List.getElem?_toArray, List.getElem?_cons_zero, List.getElem?_cons_succ]; exact rfl)
  case hd12 => rfl
  case hw12 => rfl
  case hy12 => (intro w hSw; (try dsimp only at hSw); go_simp; try with_reducible rfl)
  try simp only [Act.put, List.setIfInBounds_toArray, List.set_cons_zero, List.set_cons_succ]
  refine till_take (i := 12) (oi := ?o13) (d := (some 18)) (v := ?v13) ?hi13 (by kernel_rfl) (by kernel_rfl) (by kernel_rfl) (by kernel_rfl) (by kernel_rfl) (fun _ _ _ h => h) ?hd13 ?hw13 ?hy13 hHeld ?_
  case hi13 => (simp only [List.getElem?_toArray, List.getElem?_cons_zero, List.getElem?_cons_succ]; exact rfl)
  case hd13 => rfl
  case hw13 => rfl
  case hy13 => (intro w hSw; (try dsimp only at hSw); go_simp; try with_reducible rfl)
  try simp only [Act.put, List.setIfInBounds_toArray, List.set_cons_zero, List.set_cons_succ]
  refine till_take (i := 13) (oi := ?o14) (d := (some 19)) (v := ?v14) ?hi14 (by kernel_rfl) (by kernel_rfl) (by kernel_rfl) (by kernel_rfl) (by kernel_rfl) (fun _ _ _ h => h) ?hd14 ?hw14 ?hy14 hHeld ?_
  case hi14 => (simp only [List.getElem?_toArray, List.getElem?_cons_zero, List.getElem?_cons_succ]; exact rfl)
  case hd14 => rfl
  case hw14 => rfl
  case hy14 => (intro w hSw; (try dsimp only at hSw); go_simp; try with_reducible rfl)
  try simp only [Act.put, List.setIfInBounds_toArray, List.set_cons_zero, List.set_cons_succ]
  refine till_take (i := 14) (oi := ?o15) (d := (some 20)) (v := ?v15) ?hi15 (by kernel_rfl) (by kernel_rfl) (by kernel_rfl) (by kernel_rfl) (by kernel_rfl) (fun _ _ _ h => h) ?hd15 ?hw15 ?hy15 hHeld ?_
  case hi15 => (simp only [List.getElem?_toArray, List.getElem?_cons_zero, List.getElem?_cons_succ]; exact rfl)
  case hd15 => rfl
  case hw15 => rfl
  case hy15 => (intro w hSw; (try dsimp only at hSw); go_simp; try with_reducible rfl)
  try simp only [Act.put, List.setIfInBounds_toArray, List.set_cons_zero, List.set_cons_succ]
  refine till_take (i := 15) (oi := ?o16) (d := (some 21)) (v := ?v16) ?hi16 (by kernel_rfl) (by kernel_rfl) (by kernel_rfl) (by kernel_rfl) (by kernel_rfl) (fun _ _ _ h => h) ?hd16 ?hw16 ?hy16 hHeld ?_
  case hi16 => (simp only [List.getElem?_toArray, List.getElem?_cons_zero, List.getElem?_cons_succ]; exact rfl)
  case hd16 => rfl
  case hw16 => rfl
  case hy16 => (intro w hSw; (try dsimp only at hSw); go_simp; try with_reducible rfl)
  try simp only [Act.put, List.setIfInBounds_toArray, List.set_cons_zero, List.set_cons_succ]
  refine till_take (i := 16) (oi := ?o17) (d := (some 22)) (v := ?v17) ?hi17 (by kernel_rfl) (by kernel_rfl) (by kernel_rfl) (by kernel_rfl) (by kernel_rfl) (fun _ _ _ h => h) ?hd17 ?hw17 ?hy17 hHeld ?_
  case hi17 => (simp only [List.getElem?_toArray, List.getElem?_cons_zero, List.getElem?_cons_succ]; exact rfl)
  case hd17 => rfl
  case hw17 => rfl
  case hy17 => (intro w hSw; (try dsimp only at hSw); go_simp; try with_reducible rfl)
  try simp only [Act.put, List.setIfInBounds_toArray, List.set_cons_zero, List.set_cons_succ]
  refine AnyTill.step (i := 17) (by kernel_rfl) (by kernel_rfl) rfl (fun K hK => ?_)
  rw [if_pos (by rfl)]
  refine wp_app1 _ (.tmp 21) (.tmp 22) rfl bs cs A bs.length bs.length rfl rfl (by rintro rfl; exact ⟨by rw [(H3.out rfl).1]; rfl, by rw [(H3.out rfl).1]; rfl⟩) H2.out ad cs.length d rfl rfl HC.out (by omega) (by omega) ?_
  intro g5 c5 w5 hg5 hb5 hx5 hc5
  have x5 : w5.cell? ⟨p, 0, none⟩ = some (.slice A bs.length c) := (hx5.cell (p := ⟨p, 0, none⟩) hpl).trans x0
  have m5 := (hx5.frozen (p := ⟨p, 0, none⟩) hpl).trans m0
  have HG5 := Lib.hid hg5; have HB5 := Lib.hid hb5; have HX5 := Lib.hid hx5; have HC5 := Lib.hid hc5
  clear hg5 hb5 hx5 hc5
  refine hK.out _ _ (by exact x5) (fun hHeld17 => ?_)
  clear hK K
  try simp only [Act.put, List.setIfInBounds_toArray, List.set_cons_zero, List.set_cons_succ]
  refine till_pure (i := 18) (oi := ?o18) (d := (some 24)) (v := ?v18) ?hi18 (by kernel_rfl) (by kernel_rfl) (by kernel_rfl) (by kernel_rfl) (fun _ _ _ h => h) ?hd18 ?hw18 ?hy18 hHeld17 ?_
  case hi18 => (simp only [List.getElem?_toArray, List.getElem?_cons_zero, List.getElem?_cons_succ]; exact rfl)
  case hd18 => rfl
  case hw18 => rfl
  case hy18 => (intro w; go_simp; try with_reducible rfl)
  try simp only [Act.put, List.setIfInBounds_toArray, List.set_cons_zero, List.set_cons_succ]
  refine till_take (i := 19) (oi := ?o19) (d := (some 25)) (v := ?v19) ?hi19 (by kernel_rfl) (by kernel_rfl) (by kernel_rfl) (by kernel_rfl) (by kernel_rfl) (fun _ _ _ h => h) ?hd19 ?hw19 ?hy19 hHeld17 ?_
  case hi19 => (simp only [List.getElem?_toArray, List.getElem?_cons_zero, List.getElem?_cons_succ]; exact rfl)
  case hd19 => rfl
  case hw19 => rfl
  case hy19 => (intro w hSw; (try dsimp only at hSw); go_simp; try with_reducible rfl)
  try simp only [Act.put, List.setIfInBounds_toArray, List.set_cons_zero, List.set_cons_succ]
  refine AnyTill.last (by kernel_rfl) ?_
  refine any_drop 20 (by kernel_rfl) (by kernel_rfl) ?_
  simp only [List.drop_succ_cons, List.drop_zero]
  go_wp2_with fail
  have hb : Below w.heap.size w w5 := ext_trans (ext_drew (Below.refl _ _)) HX5.out
  have ha5 : Arr w5 p 133 #[.slice A bs.length c] := H1.out.keep hb
  have hg5 := HG5.out
  have hc5 := HC5.out
  refine bodyPost_end (results_none Tryz.results209 _ _ _) rfl ⟨⟨_, rfl⟩, ⟨some ⟨g5, 0, none⟩, c5, by simpa using ha5.put 0 (.slice (some ⟨g5, 0, none⟩) (bs.length + cs.length) c5), ?_, (fun e => by cases e), by simpa using hc5, okA_some _ _, fun g off e => ?_⟩, ?_⟩
  · refine HB5.out.bs.tch (Tch.at w5 p 0 _) fun g off e _ e2 => ?_
    injection e with e; injection e with e
    have : w.heap.size ≤ g5 := hg5
    omega
  · injection e with e; injection e with e
    have : w.heap.size ≤ g5 := hg5
    omega
  · exact (Tch.of_below (S := (· = p)) (show Below w.heap.size w w5 from hb)).at2 0 _
set_option maxRecDepth 100000 in
set_option maxHeartbeats 1000000 in
theorem number_w (p k n : Nat) (bs : List UInt8) (w : World) (h : WrAt w p bs) (hk : 1 ≤ k ∧ k ≤ 8) (hl : bs.length ≤ 67108900) (hn : n < 18446744073709551616) :
    Calls Tryz.prog 208 #[.pointer (some ⟨p, 0, none⟩), .int .u64 n, .int .i64 k] w (AdOut p (bs ++ le n k) w) := by
  obtain ⟨i0, hi, hz0, hz1, hz2⟩ := info_parts u8_info
  have HH := Lib.hid h
  have hk1 : (1 : Int) ≤ (k : Int) := by omega
  have hk8 : (k : Int) ≤ 8 := by omega
  have hpl : p < w.heap.size := by obtain ⟨A, c, h1, _⟩ := h.ex; exact h1.lt
  clear h
  go_enter Tryz.func208, Tryz.ntmps208
  go_wp2_with (refine wpList_make_full _ rfl _ _ 22 rfl w.heap.size 5 i0 (.int .u8 0) 1 Tryz.underlying22 hi hz0 hz1 .i64 .i64 _ _ k rfl rfl rfl rfl (by rw [hz2]; omega) (by unfold maxLen; omega) (Nat.le_refl _) ?_; intro w5 hown5 hg5; have HO5 := Lib.hid hown5; have HG5 := Lib.hid hg5; clear hown5 hg5)
  have hb5 : Below w.heap.size w w5 := Below.grown (Below.refl _ _) HG5.out (Nat.le_refl _) (by simp)
  obtain ⟨gb, hgb⟩ : ∃ gb, w.heap.size = gb := ⟨_, rfl⟩
  have hrow : ∃ cs : Array Value, Arr w5 gb 5 cs ∧ cs.size = k := by
    rcases HO5.out.2 with ⟨h0, _⟩ | ⟨g', cap, cur, hv, hb, hh, hnc, hcm, hcs, ht⟩
    · cases h0
    · injection hv with e1 _ e2
      injection e1 with e1
      injection e1 with e1
      subst e1 e2
      rw [← hgb]
      exact ⟨cur, hh, by omega⟩
  have HB5 := Lib.hid hb5; have HROW := Lib.hid hrow; have HGB := Lib.hid hgb
  rw [hgb]
  clear hb5 hrow HO5 HG5 hgb
  go_loopw [12] (fun i wr => ∃ (j : Nat) (cs : Array Value), j ≤ k ∧ i = .int .i64 j ∧ Arr wr gb 5 cs ∧ cs.size = k ∧ (∀ (x : Nat) (u : Value), (bytesV (le n j))[x]? = some u → cs[x]? = some u) ∧ Below w.heap.size w wr) (fun i _ => (k - intOf i).toNat)
  case atStart =>
    obtain ⟨cs, h1, h2⟩ := HROW.out
    exact ⟨0, cs, by omega, rfl, h1, h2, fun x u hu => by simp [le, bytesV] at hu, HB5.out⟩
  case round =>
    obtain ⟨j, cs, hj, rfl, hA, hcs, hin, hbw⟩ := hrel
    have HA := Lib.hid hA; have HIN := Lib.hid hin; have HBW := Lib.hid hbw
    clear hA hin hbw
    by_cases h : j < k
    · have h' : (j : Int) < (k : Int) := by omega
      have hj0 : (0 : Int) ≤ (j : Int) := by omega
      have x0 : wr.cell? ⟨gb, j, none⟩ = some cs[j] := by rw [HA.out.cell j]; exact Array.getElem?_eq_getElem (by omega)
      have m0 := HA.out.mark j
      have hby := byte_of n j
      have HBY := Lib.hid hby
      clear hby
      go_wp2_with fail
      go_roundw
      case rel =>
        refine ⟨j + 1, cs.setIfInBounds j (byteV (UInt8.ofNat (n / 256 ^ j))), by omega, by go_num, ?_, by simp [hcs], fun x u hu => ?_, ?_⟩
        · rw [HBY.out]; exact HA.out.put j _
        · rw [le, bytesV_app] at hu
          rw [Array.getElem?_setIfInBounds]
          by_cases hxj : j = x
          · subst hxj
            rw [if_pos rfl, if_pos (by omega)]
            rw [List.getElem?_append_right (by rw [bytesV_len, le_len]; exact Nat.le_refl _)] at hu
            simpa [bytesV_len, le_len, bytesV] using hu
          · rw [if_neg hxj]
            have hx := (List.getElem?_eq_some_iff.1 hu).1
            rw [List.length_append, bytesV_len, bytesV_len, le_len] at hx
            rw [List.getElem?_append_left (by rw [bytesV_len, le_len]; simp at hx; omega)] at hu
            exact HIN.out x u hu
        · exact ext_setCell HBW.out (show w.heap.size ≤ gb by have := HGB.out; omega) _
      case measure => simp [intOf]; omega
    · have h' : ¬ (j : Int) < (k : Int) := by omega
      have hjk : j = k := by omega
      subst hjk
      go_wp2_with fail
      have hB : Bs wr (some ⟨gb, 0, none⟩) (le n j) := fun hne => ⟨gb, 0, rfl, HA.out.lt, fun x u hu => by
        rw [Nat.zero_add, HA.out.cell x]; exact HIN.out x u hu⟩
      have hadd := add_in p bs (le n j) ⟨gb, 0, none⟩ j wr (HH.out.keep HBW.out) hB (by intro e; have := congrArg List.length e; rw [le_len] at this; simp at this; omega) (by rw [le_len]; omega)
      rw [le_len] at hadd
      refine hadd.mono ?_
      rintro en w6 ⟨⟨u, rfl⟩, h1, h2⟩
      have hfin : (∃ u', Ending.returned (.tuple #[]) = .returned u') ∧ WrAt w6 p (bs ++ le n j) ∧ Tch (· = p) w w6 := ⟨⟨_, rfl⟩, h1, (Tch.of_below HBW.out).trans h2⟩
      have HF := Lib.hid hfin
      clear h1 h2 hfin hadd hB
      go_wp2_with fail
      exact bodyPost_end (results_none Tryz.results208 _ _ _) rfl HF.out

-- octets.Writer.Byte
set_option maxRecDepth 100000 in
set_option maxHeartbeats 1000000 in
theorem WByte_in (p n : Nat) (bs : List UInt8) (w : World) (h : WrAt w p bs) (hl : bs.length ≤ 67108900) (hn : n < 256) : Calls Tryz.prog 160 #[.pointer (some ⟨p, 0, none⟩), .int .u8 n] w (AdOut p (bs ++ le n 1) w) := by
  have HN := Lib.hid (number_w p 1 n bs w h (by decide) hl (by omega))
  have hn0 : (0 : Int) ≤ (n : Int) := by omega
  have hn1 : (n : Int) < 256 := by omega
  have hw : IntKind.u64.wrap (n : Int) = (n : Int) := by rw [IntKind.wrap_u64]; omega
  clear h
  go_enter Tryz.func160, Tryz.ntmps160
  go_wp2_with fail
  refine HN.out.mono ?_
  rintro en w1 ⟨⟨u, rfl⟩, h2, h3⟩
  have HF := Lib.hid (show AdOut p (bs ++ le n 1) w (.returned (.tuple #[])) w1 from ⟨⟨_, rfl⟩, h2, h3⟩)
  clear h2 h3
  go_wp2_with fail
  exact bodyPost_end (results_none Tryz.results160 _ _ _) rfl HF.out
-- octets.Writer.Two
set_option maxRecDepth 100000 in
set_option maxHeartbeats 1000000 in
theorem WTwo_in (p n : Nat) (bs : List UInt8) (w : World) (h : WrAt w p bs) (hl : bs.length ≤ 67108900) (hn : n < 65536) : Calls Tryz.prog 161 #[.pointer (some ⟨p, 0, none⟩), .int .u16 n] w (AdOut p (bs ++ le n 2) w) := by
  have HN := Lib.hid (number_w p 2 n bs w h (by decide) hl (by omega))
  have hn0 : (0 : Int) ≤ (n : Int) := by omega
  have hn1 : (n : Int) < 65536 := by omega
  have hw : IntKind.u64.wrap (n : Int) = (n : Int) := by rw [IntKind.wrap_u64]; omega
  clear h
  go_enter Tryz.func161, Tryz.ntmps161
  go_wp2_with fail
  refine HN.out.mono ?_
  rintro en w1 ⟨⟨u, rfl⟩, h2, h3⟩
  have HF := Lib.hid (show AdOut p (bs ++ le n 2) w (.returned (.tuple #[])) w1 from ⟨⟨_, rfl⟩, h2, h3⟩)
  clear h2 h3
  go_wp2_with fail
  exact bodyPost_end (results_none Tryz.results161 _ _ _) rfl HF.out
-- octets.Writer.Four
set_option maxRecDepth 100000 in
set_option maxHeartbeats 1000000 in
theorem WFour_in (p n : Nat) (bs : List UInt8) (w : World) (h : WrAt w p bs) (hl : bs.length ≤ 67108900) (hn : n < 4294967296) : Calls Tryz.prog 159 #[.pointer (some ⟨p, 0, none⟩), .int .u32 n] w (AdOut p (bs ++ le n 4) w) := by
  have HN := Lib.hid (number_w p 4 n bs w h (by decide) hl (by omega))
  have hn0 : (0 : Int) ≤ (n : Int) := by omega
  have hn1 : (n : Int) < 4294967296 := by omega
  have hw : IntKind.u64.wrap (n : Int) = (n : Int) := by rw [IntKind.wrap_u64]; omega
  clear h
  go_enter Tryz.func159, Tryz.ntmps159
  go_wp2_with fail
  refine HN.out.mono ?_
  rintro en w1 ⟨⟨u, rfl⟩, h2, h3⟩
  have HF := Lib.hid (show AdOut p (bs ++ le n 4) w (.returned (.tuple #[])) w1 from ⟨⟨_, rfl⟩, h2, h3⟩)
  clear h2 h3
  go_wp2_with fail
  exact bodyPost_end (results_none Tryz.results159 _ _ _) rfl HF.out
-- octets.Writer.Eight
set_option maxRecDepth 100000 in
set_option maxHeartbeats 1000000 in
theorem WEight_in (p n : Nat) (bs : List UInt8) (w : World) (h : WrAt w p bs) (hl : bs.length ≤ 67108900) (hn : n < 18446744073709551616) : Calls Tryz.prog 163 #[.pointer (some ⟨p, 0, none⟩), .int .u64 n] w (AdOut p (bs ++ le n 8) w) := by
  have HN := Lib.hid (number_w p 8 n bs w h (by decide) hl (by omega))
  have hn0 : (0 : Int) ≤ (n : Int) := by omega
  have hn1 : (n : Int) < 18446744073709551616 := by omega
  have hw : IntKind.u64.wrap (n : Int) = (n : Int) := by rw [IntKind.wrap_u64]; omega
  clear h
  go_enter Tryz.func163, Tryz.ntmps163
  go_wp2_with fail
  refine HN.out.mono ?_
  rintro en w1 ⟨⟨u, rfl⟩, h2, h3⟩
  have HF := Lib.hid (show AdOut p (bs ++ le n 8) w (.returned (.tuple #[])) w1 from ⟨⟨_, rfl⟩, h2, h3⟩)
  clear h2 h3
  go_wp2_with fail
  exact bodyPost_end (results_none Tryz.results163 _ _ _) rfl HF.out
-- octets.Writer.Put
set_option maxRecDepth 100000 in
set_option maxHeartbeats 1000000 in
theorem WPut_in (p : Nat) (bs cs : List UInt8) (ad : Addr) (d : Nat) (w : World) (h : WrAt w p bs) (hc : Bs w (some ad) cs) (hne : cs ≠ []) (hl : bs.length + cs.length ≤ 70000000) : Calls Tryz.prog 164 #[.pointer (some ⟨p, 0, none⟩), .slice (some ad) cs.length d] w (AdOut p (bs ++ cs) w) := by
  have HN := Lib.hid (add_in p bs cs ad d w h hc hne hl)
  clear h hc hne
  go_enter Tryz.func164, Tryz.ntmps164
  go_wp2_with fail
  refine HN.out.mono ?_
  rintro en w1 ⟨⟨u, rfl⟩, h2, h3⟩
  have HF := Lib.hid (show AdOut p (bs ++ cs) w (.returned (.tuple #[])) w1 from ⟨⟨_, rfl⟩, h2, h3⟩)
  clear h2 h3
  go_wp2_with fail
  exact bodyPost_end (results_none Tryz.results164 _ _ _) rfl HF.out
-- octets.Writer.Out
set_option maxRecDepth 100000 in
set_option maxHeartbeats 1000000 in
theorem WOut_in (p : Nat) (bs : List UInt8) (w : World) (h : WrAt w p bs) (hl : bs.length ≤ 70000000) : Calls Tryz.prog 50 #[.pointer (some ⟨p, 0, none⟩)] w (ClOut bs w) := by
  obtain ⟨A, c, h1, h2, h3, h4, h5, h6⟩ := h.ex
  have x0 : w.cell? ⟨p, 0, none⟩ = some (.slice A bs.length c) := h1.cell 0
  have HC := Lib.hid (Clone_in bs A c w h2 h5 (by omega))
  clear h h1 h2 h3 h5 h6
  go_enter Tryz.func50, Tryz.ntmps50
  go_wp2_with fail
  refine HC.out.mono ?_
  rintro en w1 h1
  obtain ⟨B, d, rfl, h2⟩ := h1
  have HF := Lib.hid (show ClOut bs w (.returned (.slice B bs.length d)) w1 from ⟨B, d, rfl, h2⟩)
  clear h2
  go_wp2_with fail
  go_ret
  exact HF.out

end Go.Proofs.YtkmpchffflemcaaGreatDoor.Oc
end

/- Layer 5: a disk in memory; what only looks at it. -/
section
set_option linter.unusedVariables false
set_option linter.unusedSimpArgs false
namespace Go.Proofs.YtkmpchffflemcaaGreatDoor.Oc
open Go.RowKit
end Go.Proofs.YtkmpchffflemcaaGreatDoor.Oc
namespace Go.Proofs.YtkmpchffflemcaaGreatDoor.En
open Go.RowKit
open Go.Proofs.YtkmpchffflemcaaGreatDoor.Oc (Bs bytesV byteV okA okA_some okA_none ClOut)

/-- where a disk's parts lie -/
structure DkP where
  gd : Nat
  cd : Nat
  ad : Nat → Nat
  cp : Nat → Nat
  rv : Value
  mb : Nat
  mn : Nat
  wg : Nat → Nat
  wc : Nat → Nat
/-- the last write that waits for a sector -/
def lastIx : List (Nat × By) → Nat → Option Nat
  | [], _ => none
  | x :: r, i => match lastIx r i with
    | some j => some (j + 1)
    | none => if x.1 = i then some 0 else none
def newV (d : Dk) (q : DkP) (i : Int) : Option Value := if i < 0 then none else (lastIx d.row i.toNat).map fun j => .slice (some ⟨q.wg j, 0, none⟩) d.size (q.wc j)
def rowC (d : Dk) (q : DkP) (i : Nat) : List Value := [.int .i64 ((d.row.getD i (0, [])).1 : Nat), .slice (some ⟨q.wg i, 0, none⟩) d.size (q.wc i)]
def durC (d : Dk) (q : DkP) (i : Nat) : List Value := [.slice (some ⟨q.ad i, 0, none⟩) d.size (q.cp i)]
/-- a disk at block p; its blocks are among S's -/
structure DkLies (S : Nat → Prop) (w : World) (p : Nat) (d : Dk) (q : DkP) : Prop where
  own : Arr w p 290 #[.int .i64 d.size, .slice (some ⟨q.gd, 0, none⟩) d.dur.length q.cd, q.rv, .map (some q.mb)]
  dur : RowIn S w 22 1 (.slice (some ⟨q.gd, 0, none⟩) d.dur.length q.cd) d.dur.length (durC d q)
  each : ∀ i, i < d.dur.length → Blk w 5 (q.ad i) (d.dur.getD i []) ∧ d.size ≤ q.cp i
  row : RowIn S w 432 2 q.rv d.row.length (rowC d q)
  waits : ∀ i, i < d.row.length → Blk w 5 (q.wg i) (d.row.getD i (0, [])).2 ∧ d.size ≤ q.wc i
  newest : MapV Tryz.prog 3 .i64 w q.mb q.mn (newV d q)
  ok : d.Ok
  foot : S p ∧ S q.mb ∧ (∀ i, i < d.dur.length → S (q.ad i)) ∧ (∀ i, i < d.row.length → S (q.wg i))
  apart : (∀ i j, i < d.dur.length → j < d.dur.length → q.ad i = q.ad j → i = j) ∧ (∀ i j, i < d.dur.length → j < d.row.length → q.ad i ≠ q.wg j)
  lt : ∀ k, S k → k < w.heap.size
  few : q.mn ≤ d.row.length
def DkIn (p : Nat) (d : Dk) (S : Nat → Prop) (w : World) : Prop := ∃ q, DkLies S w p d q
theorem DkIn_loc (p : Nat) (d : Dk) : Loc (DkIn p d) := by
  refine ⟨fun ⟨q, h⟩ => h.lt, fun {S w w'} ⟨q, h⟩ hz hk => ⟨q, ?_⟩, fun {S T w} ⟨q, h⟩ hST hT => ⟨q, ?_⟩⟩
  · have hkk : ∀ k, S k → w'.heap[k]? = w.heap[k]? := hk
    exact ⟨(hkk p h.foot.1).trans h.own, h.dur.same fun g hg _ => hkk g hg, fun i hi => ⟨(h.each i hi).1.same (hkk _ (h.foot.2.2.1 i hi)), (h.each i hi).2⟩, h.row.same fun g hg _ => hkk g hg, fun i hi => ⟨(h.waits i hi).1.same (hkk _ (h.foot.2.2.2 i hi)), (h.waits i hi).2⟩, h.newest.same (hkk _ h.foot.2.1), h.ok, h.foot, h.apart, fun k hk => Nat.lt_of_lt_of_le (h.lt k hk) hz, h.few⟩
  · exact ⟨h.own, h.dur.mono fun g hg _ => hST g hg, h.each, h.row.mono fun g hg _ => hST g hg, h.waits, h.newest, h.ok, ⟨hST _ h.foot.1, hST _ h.foot.2.1, fun i hi => hST _ (h.foot.2.2.1 i hi), fun i hi => hST _ (h.foot.2.2.2 i hi)⟩, h.apart, hT, h.few⟩

-- disk.Disk.there
set_option maxRecDepth 100000 in
set_option maxHeartbeats 1000000 in
theorem there_in (p s : Nat) (hs : 1 ≤ s) (w : World) (h : w.cell? ⟨p, 0, none⟩ = some (.int .i64 s)) : Calls Tryz.prog 169 #[.pointer (some ⟨p, 0, none⟩)] w fun e w' => e = .returned (.bool true) ∧ w' = w := by
  have hs' : (0 : Int) < (s : Int) := by omega
  go_enter Tryz.func169, Tryz.ntmps169
  go_wp2_with fail
  go_ret
  exact ⟨ret_bool (a := decide (0 < s)) (decide_eq_true (by omega)), rfl⟩
set_option maxRecDepth 100000 in
set_option maxHeartbeats 1000000 in
theorem Sectors_in {p : Nat} {d : Dk} {S : Nat → Prop} {w : World} {q : DkP} (h : DkLies S w p d q) : Calls Tryz.prog 124 #[.pointer (some ⟨p, 0, none⟩)] w fun e w' => e = .returned (.int .i64 d.dur.length) ∧ w' = w := by
  have x0 : w.cell? ⟨p, 0, none⟩ = some (.int .i64 d.size) := h.own.cell 0
  have x1 : w.cell? ⟨p, 1, none⟩ = some (.slice (some ⟨q.gd, 0, none⟩) d.dur.length q.cd) := h.own.cell 1
  have HS := Lib.hid h.ok.size.1
  clear h
  go_enter Tryz.func124, Tryz.ntmps124
  go_wp2_with fail
  refine (there_in p d.size HS.out w x0).mono ?_
  rintro e w1 ⟨rfl, hw⟩
  rw [hw]
  clear hw w1
  go_wp2_with fail
  go_ret
  exact ⟨rfl, rfl⟩
set_option maxRecDepth 100000 in
set_option maxHeartbeats 1000000 in
theorem Size_in {p : Nat} {d : Dk} {S : Nat → Prop} {w : World} {q : DkP} (h : DkLies S w p d q) : Calls Tryz.prog 130 #[.pointer (some ⟨p, 0, none⟩)] w fun e w' => e = .returned (.int .i64 d.size) ∧ w' = w := by
  have x0 : w.cell? ⟨p, 0, none⟩ = some (.int .i64 d.size) := h.own.cell 0
  have HS := Lib.hid h.ok.size.1
  clear h
  go_enter Tryz.func130, Tryz.ntmps130
  go_wp2_with fail
  refine (there_in p d.size HS.out w x0).mono ?_
  rintro e w1 ⟨rfl, hw⟩
  rw [hw]
  clear hw w1
  go_wp2_with fail
  go_ret
  exact ⟨rfl, rfl⟩
end Go.Proofs.YtkmpchffflemcaaGreatDoor.En
end

/- Layer 5: a sector is written. -/
section
set_option linter.unusedVariables false
set_option linter.unusedSimpArgs false
namespace Go.Proofs.YtkmpchffflemcaaGreatDoor.En
open Go.RowKit
open Go.Proofs.YtkmpchffflemcaaGreatDoor.Oc (Bs bytesV byteV okA okA_some okA_none ClOut)

theorem _root_.Go.Proofs.YtkmpchffflemcaaGreatDoor.RowIn.ne_obj {S : Nat → Prop} {w : World} {e : TypeId} {sz n k g : Nat} {v : Value} {c : Nat → List Value} (h : RowIn S w e sz v n c) (hg : v.ownBlock = some g) {o : Obj} (ho : w.heap[k]? = some o) (hne : ∀ cur, o ≠ .cells cur e (0, 0)) : k ≠ g := by
  rintro rfl
  rcases h.own.2 with ⟨hv, _⟩ | ⟨g', cap', cur, hv, _, hh, _⟩
  · subst hv; simp [Value.ownBlock] at hg
  · subst hv
    have e1 : g' = k := by simpa [Value.ownBlock] using hg
    subst e1
    rw [hh] at ho
    injection ho with ho
    exact hne cur ho.symm
theorem _root_.Go.Proofs.YtkmpchffflemcaaGreatDoor.MapV.obj {P : Program} {k : TypeId} {q : IntKind} {w : World} {b n : Nat} {φ : Int → Option Value} (h : MapV P k q w b n φ) : ∃ es c, w.heap[b]? = some (.map es c) := by
  obtain ⟨D, ⟨es, clock, hb, _⟩, _⟩ := h; exact ⟨es, clock, hb⟩
theorem _root_.Go.Proofs.YtkmpchffflemcaaGreatDoor.MapV.ne_arr {P : Program} {k t : TypeId} {q : IntKind} {w : World} {b n g : Nat} {φ : Int → Option Value} {cs : Array Value} (h : MapV P k q w b n φ) (ha : Arr w g t cs) : g ≠ b := by
  rintro rfl
  obtain ⟨es, c, hb⟩ := h.obj
  rw [Arr, hb] at ha
  injection ha with ha
  cases ha
theorem _root_.Go.Proofs.YtkmpchffflemcaaGreatDoor.RowIn.keep1 {S : Nat → Prop} {w w' : World} {e : TypeId} {sz n g cap : Nat} {c : Nat → List Value} (h : RowIn S w e sz (.slice (some ⟨g, 0, none⟩) n cap) n c) (hk : w'.heap[g]? = w.heap[g]?) : RowIn S w' e sz (.slice (some ⟨g, 0, none⟩) n cap) n c :=
  ⟨own_same h.own fun g' hg => by
    have : g = g' := by simpa [Value.ownBlock] using hg
    subst this; exact hk, h.block⟩
end Go.Proofs.YtkmpchffflemcaaGreatDoor.En
end

/- Layer 5: what waits becomes durable. -/
section
set_option linter.unusedVariables false
set_option linter.unusedSimpArgs false
namespace Go.Proofs.YtkmpchffflemcaaGreatDoor.En
open Go.RowKit
open Go.Proofs.YtkmpchffflemcaaGreatDoor.Oc (Bs bytesV byteV okA okA_some okA_none ClOut)

theorem getD_set (l : List By) (a i : Nat) (x : By) (ha : a < l.length) : (l.set a x).getD i [] = if i = a then x else l.getD i [] := by
  rw [List.getD_eq_getElem?_getD, List.getElem?_set]
  by_cases h : a = i
  · subst h; rw [if_pos rfl, if_pos rfl, if_pos ha]; rfl
  · rw [if_neg h, if_neg (fun e => h e.symm), List.getD_eq_getElem?_getD]
/-- a disk whose sector a has turned -/
theorem DkLies.turn {S : Nat → Prop} {w w' : World} {p a : Nat} {d : Dk} {q : DkP} {b : By} (h : DkLies S w p d q) (ha : a < d.dur.length) (hb : b.length = d.size) (hblk : Blk w' 5 (q.ad a) b) (hz : w.heap.size ≤ w'.heap.size) (hk : ∀ k, k < w.heap.size → k ≠ q.ad a → w'.heap[k]? = w.heap[k]?) :
    DkLies S w' p { d with dur := d.dur.set a b } q := by
  obtain ⟨cur, hcur, _⟩ := (h.each a ha).1
  have ne : ∀ {k : Nat} {o : Obj}, w.heap[k]? = some o → (∀ c, o ≠ .cells c 5 (0, 0)) → k ≠ q.ad a := fun {k o} ho hne e => by
    subst e; rw [hcur] at ho; injection ho with ho; exact hne _ ho.symm
  have nb : ∀ {k : Nat} {t : TypeId} {cs : Array Value}, Arr w k t cs → t ≠ 5 → k ≠ q.ad a := fun {k t cs} hA ht => ne hA (fun c e => by injection e with _ e2; exact ht e2)
  have hlen : (d.dur.set a b).length = d.dur.length := List.length_set
  have hrow : ∀ {e : TypeId} {sz n : Nat} {v : Value} {c : Nat → List Value}, RowIn S w e sz v n c → e ≠ 5 → RowIn S w' e sz v n c := fun {e sz n v c} hr he =>
    ⟨own_same hr.own fun g hg => hk g (own_lt hr.own hg).1 (by
      rcases hr.own.2 with ⟨hv, _⟩ | ⟨g', cap', cc, hv, _, hh, _⟩
      · subst hv; simp [Value.ownBlock] at hg
      · subst hv
        have e1 : g' = g := by simpa [Value.ownBlock] using hg
        subst e1
        exact ne hh (fun c e2 => by injection e2 with _ e3; exact he e3)), hr.block⟩
  refine ⟨?_, ?_, fun i hi => ?_, hrow h.row (by decide), fun i hi => ?_, h.newest.same (hk _ h.newest.lt ?_), ⟨h.ok.size, by rw [hlen]; exact h.ok.some, fun x hx => ?_, fun x hx => by rw [hlen]; exact h.ok.waits x hx⟩, ⟨h.foot.1, h.foot.2.1, fun i hi => h.foot.2.2.1 i (by rwa [hlen] at hi), h.foot.2.2.2⟩, ⟨fun i j hi hj => h.apart.1 i j (by rwa [hlen] at hi) (by rwa [hlen] at hj), fun i j hi hj => h.apart.2 i j (by rwa [hlen] at hi) hj⟩, fun k hk => Nat.lt_of_lt_of_le (h.lt k hk) hz, h.few⟩
  · show Arr w' p _ #[.int .i64 d.size, .slice (some ⟨q.gd, 0, none⟩) (d.dur.set a b).length q.cd, q.rv, .map (some q.mb)]
    rw [hlen]
    exact (hk p h.own.lt (nb h.own (by decide))).trans h.own
  · show RowIn S w' _ 1 (.slice (some ⟨q.gd, 0, none⟩) (d.dur.set a b).length q.cd) (d.dur.set a b).length _
    rw [hlen]
    exact hrow h.dur (by decide)
  · show Blk w' _ (q.ad i) ((d.dur.set a b).getD i []) ∧ d.size ≤ q.cp i
    rw [hlen] at hi
    rw [getD_set _ _ _ _ ha]
    by_cases e : i = a
    · subst e; rw [if_pos rfl]; exact ⟨hblk, (h.each i hi).2⟩
    · rw [if_neg e]
      exact ⟨(h.each i hi).1.same (hk _ (h.each i hi).1.lt (fun e2 => e (h.apart.1 i a hi ha e2))), (h.each i hi).2⟩
  · exact ⟨(h.waits i hi).1.same (hk _ (h.waits i hi).1.lt (fun e => h.apart.2 a i ha hi e.symm)), (h.waits i hi).2⟩
  · obtain ⟨es, c, hb'⟩ := h.newest.obj
    exact ne hb' (fun c e => by injection e)
  · rcases List.mem_or_eq_of_mem_set hx with hx | hx
    · exact h.ok.each x hx
    · rw [hx]; exact hb
end Go.Proofs.YtkmpchffflemcaaGreatDoor.En
end

/- Layer 5: Crash. -/
section
set_option linter.unusedVariables false
set_option linter.unusedSimpArgs false
namespace Go.Proofs.YtkmpchffflemcaaGreatDoor.En
open Go.RowKit
open Go.Proofs.YtkmpchffflemcaaGreatDoor.Oc (Bs bytesV byteV okA okA_some okA_none ClOut)

def fateL (f : Fate) : List Value := [.int .i64 f.kind, .int .i64 f.at_]
/-- a list of fates, wherever it lies -/
def Fts (w : World) (A : Option Addr) (l : List Fate) : Prop := l ≠ [] → ∃ g off, A = some ⟨g, off, none⟩ ∧ g < w.heap.size ∧ ∀ k (h : k < l.length), w.rangeAt g (off + k * 2) (fateL l[k])
theorem Fts.same {w w' : World} {A : Option Addr} {l : List Fate} (h : Fts w A l) (hz : w.heap.size ≤ w'.heap.size) (hk : ∀ g off, A = some ⟨g, off, none⟩ → g < w.heap.size → w'.heap[g]? = w.heap[g]?) : Fts w' A l := fun hne => by
  obtain ⟨g, off, h1, h2, h3⟩ := h hne
  refine ⟨g, off, h1, Nat.lt_of_lt_of_le h2 hz, fun k hk' j v hj => ?_⟩
  rw [← h3 k hk' j v hj]
  exact World.cell?_of_block (a := ⟨g, _, none⟩) (hk g off h1 h2)
theorem Fts.keep {w w' : World} {A : Option Addr} {l : List Fate} (h : Fts w A l) (hb : Below w.heap.size w w') : Fts w' A l := h.same hb.size fun g _ _ hg => hb.block g hg
theorem Fts.cells {w : World} {g off : Nat} {l : List Fate} (h : Fts w (some ⟨g, off, none⟩) l) {k : Nat} (hk : k < l.length) : w.cell? ⟨g, off + k * 2, none⟩ = some (.int .i64 l[k].kind) ∧ w.cell? ⟨g, off + k * 2 + 1, none⟩ = some (.int .i64 l[k].at_) := by
  obtain ⟨g', off', h1, _, h3⟩ := h (by rintro rfl; simp at hk)
  injection h1 with h1; injection h1 with e1 e2
  subst e1 e2
  exact ⟨by simpa using h3 k hk 0 _ rfl, h3 k hk 1 _ rfl⟩
end Go.Proofs.YtkmpchffflemcaaGreatDoor.En
end

/- Layer 5: may, New. -/
section
set_option linter.unusedVariables false
set_option linter.unusedSimpArgs false
namespace Go.Proofs.YtkmpchffflemcaaGreatDoor.En
open Go.RowKit
open Go.Proofs.YtkmpchffflemcaaGreatDoor.Oc (Bs bytesV byteV okA okA_some okA_none ClOut)

set_option maxRecDepth 100000 in
set_option maxHeartbeats 1000000 in
theorem may_yes (n s : Nat) (hn : 1 ≤ n ∧ n ≤ 65536) (hs : s = 64 ∨ s = 128) (w : World) : Calls Tryz.prog 123 #[.int .i64 n, .int .i64 s] w fun e w' => e = .returned (.bool true) ∧ Below w.heap.size w w' := by
  have h1 : (1 : Int) ≤ (n : Int) := by omega
  have h2 : (n : Int) ≤ 65536 := by omega
  have e1 : Go.bits BinOp.and IntKind.i64 64 63 = 0 := by decide
  have e2 : Go.bits BinOp.and IntKind.i64 128 127 = 0 := by decide
  rcases hs with rfl | rfl
  · go_enter Tryz.func123, Tryz.ntmps123
    go_wp2_with fail
    go_ret
    exact ⟨ret_bool (a := decide ((n : Int) * 64 ≤ 67108864)) (decide_eq_true (by omega)), Below.refl _ _⟩
  · go_enter Tryz.func123, Tryz.ntmps123
    go_wp2_with fail
    go_ret
    exact ⟨ret_bool (a := decide ((n : Int) * 128 ≤ 67108864)) (decide_eq_true (by omega)), Below.refl _ _⟩
/-- a disk of noughts -/
def dk0 (n s : Nat) : Dk := ⟨s, List.replicate n (List.replicate s 0), []⟩
def DNew (n s : Nat) (w : World) (e : Ending) (w' : World) : Prop := ∃ p S, e = .returned (.tuple #[.pointer (some ⟨p, 0, none⟩), .int .i64 0]) ∧ DkIn p (dk0 n s) S w' ∧ (∀ k, S k → w.heap.size ≤ k) ∧ Below w.heap.size w w'
theorem rows_info : (Tryz.prog.info? 22).map (fun i => (i.zero, i.size, i.bytes)) = some (some (.slice none 0 0), 1, 24) := by kernel_rfl
theorem newV_nil (s : Nat) (dur : List By) (q : DkP) : newV ⟨s, dur, []⟩ q = fun _ => none := by funext z; unfold newV; split <;> rfl
/-- what New has made behind k rounds -/
structure NwSt (w wr : World) (p mb s k : Nat) (v : Value) (ad cp : Nat → Nat) : Prop where
  own : Arr wr p 290 #[.int .i64 s, v, .slice none 0 0, .map (some mb)]
  row : RowIn (fun g => w.heap.size ≤ g) wr 22 1 v k (fun i => [.slice (some ⟨ad i, 0, none⟩) s (cp i)])
  each : ∀ i, i < k → Blk wr 5 (ad i) (List.replicate s 0) ∧ s ≤ cp i ∧ w.heap.size ≤ ad i
  alone : ∀ i j, i < k → j < k → ad i = ad j → i = j
  map : MapV Tryz.prog 3 .i64 wr mb 0 (fun _ => none)
  below : Below w.heap.size w wr
  news : w.heap.size ≤ p ∧ w.heap.size ≤ mb
theorem NwSt.done {w wr : World} {p mb s n : Nat} {v : Value} {ad cp : Nat → Nat} (h : NwSt w wr p mb s n v ad cp) (hn : 1 ≤ n ∧ n ≤ 65536) (hs : 1 ≤ s ∧ s ≤ 4096) : DkIn p (dk0 n s) (fun k => w.heap.size ≤ k ∧ k < wr.heap.size) wr := by
  obtain ⟨gd, cd, rfl, _, _, _, hgl⟩ := h.row.form (by omega)
  have hl : (dk0 n s).dur.length = n := List.length_replicate
  have hg : ∀ i, i < n → (dk0 n s).dur.getD i [] = List.replicate s 0 := fun i hi => by
    unfold dk0; simp only; rw [List.getD_eq_getElem?_getD, List.getElem?_replicate, if_pos hi]; rfl
  refine ⟨⟨gd, cd, ad, cp, .slice none 0 0, mb, 0, fun _ => 0, fun _ => 0⟩, ?_, ?_, fun i hi => ?_, RowIn.nil _ _ _ _ _, fun i hi => absurd hi (Nat.not_lt_zero i), ?_, ⟨hs, by rw [hl]; exact hn, fun b hb => ?_, fun x hx => by cases hx⟩, ⟨⟨h.news.1, h.own.lt⟩, ⟨h.news.2, h.map.lt⟩, fun i hi => ?_, fun i hi => absurd hi (Nat.not_lt_zero i)⟩, ⟨fun i j hi hj => ?_, fun i j _ hj => absurd hj (Nat.not_lt_zero j)⟩, fun k hk => hk.2, Nat.le_refl _⟩
  · show Arr wr p _ #[.int .i64 s, .slice (some ⟨gd, 0, none⟩) (dk0 n s).dur.length cd, .slice none 0 0, .map (some mb)]
    rw [hl]; exact h.own
  · show RowIn _ wr _ 1 (.slice (some ⟨gd, 0, none⟩) (dk0 n s).dur.length cd) (dk0 n s).dur.length _
    rw [hl]; exact h.row.mono fun g hg hg2 => ⟨hg, hg2⟩
  · rw [hl] at hi
    rw [hg i hi]
    exact ⟨(h.each i hi).1, (h.each i hi).2.1⟩
  · rw [show newV (dk0 n s) _ = fun _ => none from newV_nil s _ _]; exact h.map
  · obtain rfl := List.eq_of_mem_replicate hb; exact List.length_replicate
  · rw [hl] at hi; exact ⟨(h.each i hi).2.2, (h.each i hi).1.lt⟩
  · rw [hl] at hi hj; exact h.alone i j hi hj
theorem bytes_rep (s : Nat) : bytesV (List.replicate s 0) = List.replicate s (.int .u8 0) := by unfold bytesV; rw [List.map_replicate]; rfl
theorem flat_rep (s : Nat) : flat (fun _ => (Value.int .u8 0).cells.toList) s = List.replicate s (.int .u8 0) := by
  induction s with
  | zero => rfl
  | succ s ih => rw [flat, ih, List.replicate_succ']; rfl
set_option maxRecDepth 100000 in
set_option maxHeartbeats 2000000 in
theorem New_in (n s : Nat) (hn : 1 ≤ n ∧ n ≤ 65536) (hs : s = 64 ∨ s = 128) (w : World) : Calls Tryz.prog 73 #[.int .i64 n, .int .i64 s] w (DNew n s w) := by
  obtain ⟨i0, hi0, hz0, hz1, hz2⟩ := info_parts Oc.u8_info
  obtain ⟨j0, hj0, hy0, hy1, hy2⟩ := info_parts rows_info
  have HM := Lib.hid (may_yes n s hn hs)
  have hmm := @run_makeMap Tryz.prog
  have hn1 : (n : Int) ≤ 65536 := by omega
  have hs0 : (0 : Int) ≤ (s : Int) := by omega
  have hs1 : (s : Int) ≤ 128 := by rcases hs with rfl | rfl <;> simp
  have HN := Lib.hid hn; have HS := Lib.hid hs; have HS0 := Lib.hid (show 0 < s by rcases hs with rfl | rfl <;> decide)
  clear hs hn
  go_enter Tryz.func73, Tryz.ntmps73
  go_wp2_with fail
  refine (HM.out w).mono ?_
  rintro e w1 ⟨rfl, hb1⟩
  have HB1 := Lib.hid hb1
  clear hb1 HM
  go_wp2_with fail
  obtain ⟨p, hp⟩ : ∃ p, w1.heap.size + 1 = p := ⟨_, rfl⟩
  obtain ⟨mb, hmb⟩ : ∃ mb, w1.heap.size = mb := ⟨_, rfl⟩
  obtain ⟨w2, hw2⟩ : ∃ w2, (w1.alloc (.map #[] 0)).alloc (.cells #[.int .i64 s, .slice none 0 0, .slice none 0 0, .map (some w1.heap.size)] 290) = w2 := ⟨_, rfl⟩
  have hst : NwSt w w2 p mb s 0 (.slice none 0 0) (fun _ => 0) (fun _ => 0) := by
    have hz := HB1.out.size
    refine ⟨?_, RowIn.nil _ _ _ _ _, fun i hi => absurd hi (Nat.not_lt_zero i), fun i j hi => absurd hi (Nat.not_lt_zero i), ?_, ?_, by omega, by omega⟩
    · rw [← hw2, ← hmb]; exact Arr.new (by simp; omega)
    · rw [← hw2, ← hmb]; exact (MapV.made Tryz.prog _ _ w1).keep (ext_alloc (Below.refl _ _) _)
    · rw [← hw2]; exact ext_alloc (ext_alloc HB1.out _) _
  rw [hw2, hp]
  have HST := Lib.hid hst
  clear hst hw2 hp hmb HB1
  go_loopw [16] (fun i wr => ∃ (k : Nat) (v : Value) (ad cp : Nat → Nat), k ≤ n ∧ i = .int .i64 k ∧ NwSt w wr p mb s k v ad cp) (fun i _ => (n - intOf i).toNat)
  case atStart => exact ⟨0, _, _, _, by omega, rfl, HST.out⟩
  case round =>
    obtain ⟨k, v, ad, cp, hk, rfl, hI⟩ := hrel
    have HI := Lib.hid hI
    clear hI
    by_cases h : k < n
    · have h' : (k : Int) < (n : Int) := by omega
      have x1 : wr.cell? ⟨p, 1, none⟩ = some v := HI.out.own.cell 1
      go_wp2_with fail
      refine region_any_drew (by kernel_rfl) ?_
      refine AnyTill.any (S := (fun w' => w'.cell? ⟨p, 1, none⟩ = some v)) (t := 11) _ _ _ _ ?_
      have hHeld := (show (fun w' => w'.cell? ⟨p, 1, none⟩ = some v) wr.drew from x1)
      refine till_take (i := 0) (oi := ?o1) (d := (some 18)) (v := ?v1) ?hi1 (by kernel_rfl) (by kernel_rfl) (by kernel_rfl) (by kernel_rfl) (by kernel_rfl) (fun _ _ _ h => h) ?hd1 ?hw1 ?hy1 hHeld ?_
      case hi1 => (simp only [List.getElem?_toArray, List.getElem?_cons_zero]; exact rfl)
      case hd1 => rfl
      case hw1 => rfl
      case hy1 => (intro w hSw; (try dsimp only at hSw); go_simp; try with_reducible rfl)
      try simp only [Act.put, List.setIfInBounds_toArray, List.set_cons_zero, List.set_cons_succ]
      refine till_take (i := 1) (oi := ?o2) (d := (some 19)) (v := ?v2) ?hi2 (by kernel_rfl) (by kernel_rfl) (by kernel_rfl) (by kernel_rfl) (by kernel_rfl) (fun _ _ _ h => h) ?hd2 ?hw2 ?hy2 hHeld ?_
      case hi2 => (simp only [List.getElem?_toArray, List.getElem?_cons_zero, List.getElem?_cons_succ]; exact rfl)
      case hd2 => rfl
      case hw2 => rfl
      case hy2 => (intro w hSw; (try dsimp only at hSw); go_simp; try with_reducible rfl)
      try simp only [Act.put, List.setIfInBounds_toArray, List.set_cons_zero, List.set_cons_succ]
      refine till_take (i := 2) (oi := ?o3) (d := (some 20)) (v := ?v3) ?hi3 (by kernel_rfl) (by kernel_rfl) (by kernel_rfl) (by kernel_rfl) (by kernel_rfl) (fun _ _ _ h => h) ?hd3 ?hw3 ?hy3 hHeld ?_
      case hi3 => (simp only [List.getElem?_toArray, List.getElem?_cons_zero, List.getElem?_cons_succ]; exact rfl)
      case hd3 => rfl
      case hw3 => rfl
      case hy3 => (intro w hSw; (try dsimp only at hSw); go_simp; try with_reducible rfl)
      try simp only [Act.put, List.setIfInBounds_toArray, List.set_cons_zero, List.set_cons_succ]
      refine till_take (i := 3) (oi := ?o4) (d := (some 21)) (v := ?v4) ?hi4 (by kernel_rfl) (by kernel_rfl) (by kernel_rfl) (by kernel_rfl) (by kernel_rfl) (fun _ _ _ h => h) ?hd4 ?hw4 ?hy4 hHeld ?_
      case hi4 => (simp only [List.getElem?_toArray, List.getElem?_cons_zero, List.getElem?_cons_succ]; exact rfl)
      case hd4 => rfl
      case hw4 => rfl
      case hy4 => (intro w hSw; (try dsimp only at hSw); go_simp; try with_reducible rfl)
      try simp only [Act.put, List.setIfInBounds_toArray, List.set_cons_zero, List.set_cons_succ]
      refine till_take (i := 4) (oi := ?o5) (d := (some 22)) (v := ?v5) ?hi5 (by kernel_rfl) (by kernel_rfl) (by kernel_rfl) (by kernel_rfl) (by kernel_rfl) (fun _ _ _ h => h) ?hd5 ?hw5 ?hy5 hHeld ?_
      case hi5 => (simp only [List.getElem?_toArray, List.getElem?_cons_zero, List.getElem?_cons_succ]; exact rfl)
      case hd5 => rfl
      case hw5 => rfl
      case hy5 => (intro w hSw; (try dsimp only at hSw); go_simp; try with_reducible rfl)
      try simp only [Act.put, List.setIfInBounds_toArray, List.set_cons_zero, List.set_cons_succ]
      refine till_take (i := 5) (oi := ?o6) (d := (some 23)) (v := ?v6) ?hi6 (by kernel_rfl) (by kernel_rfl) (by kernel_rfl) (by kernel_rfl) (by kernel_rfl) (fun _ _ _ h => h) ?hd6 ?hw6 ?hy6 hHeld ?_
      case hi6 => (simp only [List.getElem?_toArray, List.getElem?_cons_zero, List.getElem?_cons_succ]; exact rfl)
      case hd6 => rfl
      case hw6 => rfl
      case hy6 => (intro w hSw; (try dsimp only at hSw); go_simp; try with_reducible rfl)
      try simp only [Act.put, List.setIfInBounds_toArray, List.set_cons_zero, List.set_cons_succ]
      refine AnyTill.step (i := 6) (by kernel_rfl) (by kernel_rfl) rfl (fun K hK => ?_)
      rw [if_pos (by rfl)]
      refine wp_make_rows _ (.tmp 23) (.tmp 23) 22 rfl 5 i0 (.int .u8 0) 1 Tryz.underlying22 hi0 hz0 hz1 rfl (by decide) s rfl rfl (by rw [hz2]; omega) (by unfold maxLen; omega) ?_
      intro w4 hr4 hg4
      have hbw4 : Below wr.heap.size wr w4 := Below.grown (ext_drew (Below.refl _ _)) hg4 (Nat.le_refl _) (by simp)
      have x4 : w4.cell? ⟨p, 1, none⟩ = some v := (hbw4.cell (p := ⟨p, 1, none⟩) HI.out.own.lt).trans x1
      have hz4 : wr.heap.size < w4.heap.size := by obtain ⟨g, cap, e, he, _, _, hlt⟩ := hr4.form HS0.out; injection e with e; injection e with e; have e2 : g = wr.heap.size := he; omega
      have HR4 := Lib.hid hr4; have HB4 := Lib.hid hbw4; have HZ4 := Lib.hid hz4
      clear hr4 hg4 hbw4 hz4
      refine hK.out _ _ (by first | exact x4 | exact x5 | exact z6) (fun hHeld6 => ?_)
      clear hK K
      try simp only [Act.put, List.setIfInBounds_toArray, List.set_cons_zero, List.set_cons_succ]
      refine AnyTill.step (i := 7) (by kernel_rfl) (by kernel_rfl) rfl (fun K hK => ?_)
      have hb5 : Below wr.heap.size wr (w4.alloc (.cells #[.slice (some ⟨wr.heap.size, 0, none⟩) s s] 22)) := ext_alloc HB4.out _
      have x5 : (w4.alloc (.cells #[.slice (some ⟨wr.heap.size, 0, none⟩) s s] 22)).cell? ⟨p, 1, none⟩ = some v := (hb5.cell (p := ⟨p, 1, none⟩) HI.out.own.lt).trans x1
      have HB5 := Lib.hid hb5
      clear hb5
      go_simp
      go_wp2_with fail
      refine hK.out _ _ (by first | exact x4 | exact x5 | exact z6) (fun hHeld7 => ?_)
      clear hK K
      try simp only [Act.put, List.setIfInBounds_toArray, List.set_cons_zero, List.set_cons_succ]
      refine AnyTill.step (i := 8) (by kernel_rfl) (by kernel_rfl) rfl (fun K hK => ?_)
      rw [if_pos (by rfl)]
      refine wp_append_elem _ (.tmp 22) (.tmp 25) 24 rfl 22 j0 (.slice none 0 0) 1 24 Tryz.underlying24 hj0 hy0 hy1 hy2 rfl (by decide) v k (fun i => [.slice (some ⟨ad i, 0, none⟩) s (cp i)]) rfl (HI.out.row.keep HB5.out) ⟨w4.heap.size, 0, none⟩ 1 [.slice (some ⟨wr.heap.size, 0, none⟩) s s] rfl rfl (news_any w4 _ _) (by intro u hu; simp at hu; subst hu; rfl) (by unfold maxLen; omega) (by omega) ?_
      intro ga ca w6 hr6 hg6
      have hz5 := HB5.out.size
      have hob : ∀ {g : Nat} {o : Obj}, wr.heap[g]? = some o → (∀ c, o ≠ .cells c 22 (0, 0)) → w6.heap[g]? = wr.heap[g]? := fun {g o} ho hne => by
        have hgl := (Array.getElem?_eq_some_iff.1 ho).1
        exact (hg6.block g (by omega) (fun e => HI.out.row.ne_obj e.symm ho hne rfl)).trans (HB5.out.block g hgl)
      have hp6 : Arr w6 p 290 #[.int .i64 s, v, .slice none 0 0, .map (some mb)] := (hob HI.out.own (fun c e => by injection e with _ e2; revert e2; decide)).trans HI.out.own
      have hm6 : MapV Tryz.prog 3 .i64 w6 mb 0 (fun _ => none) := HI.out.map.same (by obtain ⟨es, c, hb⟩ := HI.out.map.obj; exact hob hb (fun c e => by injection e))
      have he6 : ∀ i, i < k → Blk w6 5 (ad i) (List.replicate s 0) := fun i hi => (HI.out.each i hi).1.same (by obtain ⟨cur, hc, _⟩ := (HI.out.each i hi).1; exact hob hc (fun c e => by injection e with _ e2; revert e2; decide))
      have hn6 : Blk w6 5 wr.heap.size (List.replicate s 0) := by
        have ho4 := HR4.out.own
        have hb4 : Blk w4 5 wr.heap.size (List.replicate s 0) := (Oc.own_blk (bs := List.replicate s 0) (by rw [bytes_rep]; have := ho4; rw [flat_rep] at this; exact this) (List.length_replicate)).1
        obtain ⟨cur, hc, hin⟩ := hb4
        refine ⟨cur, (hg6.block _ (by have := HZ4.out; simp; omega) (fun e => ?_)).trans ((Below.heap_alloc w4 _ _ HZ4.out).trans hc), hin⟩
        have hlt := (own_lt HI.out.row.own e.symm).1
        omega
      have hbw6 : Below w.heap.size w w6 := (ext_trans HI.out.below HB5.out).grown hg6 (by have := (ext_trans HI.out.below HB5.out).size; exact this) (fun g e => HI.out.row.block g e)
      have m6 := hp6.mark 1
      have z6 : w6.cell? ⟨p, 1, none⟩ = some v := hp6.cell 1
      have hpg : p ≠ ga := hr6.ne_obj rfl hp6 (fun c e => by injection e with _ e2; revert e2; decide)
      have HR6 := Lib.hid hr6; have HP6 := Lib.hid hp6; have HM6 := Lib.hid hm6; have HE6 := Lib.hid he6; have HN6 := Lib.hid hn6; have HB6 := Lib.hid hbw6; have HPG := Lib.hid hpg
      clear hr6 hg6 hob hp6 hm6 he6 hn6 hbw6 hpg hz5
      refine hK.out _ _ (by first | exact x4 | exact x5 | exact z6) (fun hHeld8 => ?_)
      clear hK K
      try simp only [Act.put, List.setIfInBounds_toArray, List.set_cons_zero, List.set_cons_succ]
      refine till_pure (i := 9) (oi := ?o7) (d := (some 27)) (v := ?v7) ?hi7 (by kernel_rfl) (by kernel_rfl) (by kernel_rfl) (by kernel_rfl) (fun _ _ _ h => h) ?hd7 ?hw7 ?hy7 hHeld8 ?_
      case hi7 => (simp only [List.getElem?_toArray, List.getElem?_cons_zero, List.getElem?_cons_succ]; exact rfl)
      case hd7 => rfl
      case hw7 => rfl
      case hy7 => (intro w; go_simp; try with_reducible rfl)
      try simp only [Act.put, List.setIfInBounds_toArray, List.set_cons_zero, List.set_cons_succ]
      refine till_take (i := 10) (oi := ?o8) (d := (some 28)) (v := ?v8) ?hi8 (by kernel_rfl) (by kernel_rfl) (by kernel_rfl) (by kernel_rfl) (by kernel_rfl) (fun _ _ _ h => h) ?hd8 ?hw8 ?hy8 hHeld8 ?_
      case hi8 => (simp only [List.getElem?_toArray, List.getElem?_cons_zero, List.getElem?_cons_succ]; exact rfl)
      case hd8 => rfl
      case hw8 => rfl
      case hy8 => (intro w hSw; (try dsimp only at hSw); go_simp; try with_reducible rfl)
      try simp only [Act.put, List.setIfInBounds_toArray, List.set_cons_zero, List.set_cons_succ]
      refine AnyTill.last (by kernel_rfl) ?_
      refine any_drop 11 (by kernel_rfl) (by kernel_rfl) ?_
      simp only [List.drop_succ_cons, List.drop_zero]
      have hf : NwSt w (w6.setCell ⟨p, 1, none⟩ (.slice (some ⟨ga, 0, none⟩) (k + 1) ca)) p mb s (k + 1) (.slice (some ⟨ga, 0, none⟩) (k + 1) ca) (setL ad k wr.heap.size) (setL cp k s) := by
        have hpw : w.heap.size ≤ p := HI.out.news.1
        have hsc : ∀ g, g ≠ p → (w6.setCell ⟨p, 1, none⟩ (.slice (some ⟨ga, 0, none⟩) (k + 1) ca)).heap[g]? = w6.heap[g]? := fun g hg => Below.heap_setCell w6 ⟨p, 1, none⟩ _ g hg
        have hbne : ∀ {g : Nat}, Blk w6 5 g (List.replicate s 0) → g ≠ p := fun {g} hb e => by
          obtain ⟨cur, hc, _⟩ := hb
          have h2 := HP6.out
          rw [Arr, ← e, hc] at h2
          injection h2 with h2
          injection h2 with _ h3
          revert h3; decide
        have hwr : w.heap.size ≤ wr.heap.size := HI.out.below.size
        refine ⟨by simpa using HP6.out.put 1 (.slice (some ⟨ga, 0, none⟩) (k + 1) ca), ?_, fun i hi => ?_, fun i j hi hj he => ?_, HM6.out.same (hsc mb (fun e => HM6.out.ne_arr HP6.out e.symm)), ext_setCell HB6.out hpw _, HI.out.news⟩
        · have h1 := (HR6.out.mono (T := fun g => w.heap.size ≤ g) (fun g hg _ => by
            rcases hg with hg | hg
            · exact hg
            · have := HB5.out.size; omega)).keep1 (hsc ga (Ne.symm HPG.out))
          refine ⟨?_, h1.block⟩
          have h2 := h1.own
          rw [flat_congr (d := fun i => [.slice (some ⟨setL ad k wr.heap.size i, 0, none⟩) s (setL cp k s i)]) (fun i hi => ?_)] at h2
          · exact h2
          · by_cases e : i = k
            · subst e; rw [setL_same, setL_same, setL_same]
            · rw [setL_other _ _ e, setL_other _ _ e, setL_other _ _ e]
        · by_cases e : i = k
          · subst e
            rw [setL_same, setL_same]
            exact ⟨HN6.out.same (hsc _ (hbne HN6.out)), Nat.le_refl _, hwr⟩
          · rw [setL_other _ _ e, setL_other _ _ e]
            have hb := HE6.out i (by omega)
            exact ⟨hb.same (hsc _ (hbne hb)), (HI.out.each i (by omega)).2⟩
        · have hlt : ∀ i, i < k → ad i < wr.heap.size := fun i hi => (HI.out.each i hi).1.lt
          by_cases e1 : i = k <;> by_cases e2 : j = k
          · omega
          · subst e1; rw [setL_same, setL_other _ _ e2] at he; have := hlt j (by omega); omega
          · subst e2; rw [setL_same, setL_other _ _ e1] at he; have := hlt i (by omega); omega
          · rw [setL_other _ _ e1, setL_other _ _ e2] at he; exact HI.out.alone i j (by omega) (by omega) he
      have HF := Lib.hid hf
      clear hf
      go_wp2_with fail
      go_roundw
      case rel => exact ⟨k + 1, _, _, _, by omega, by go_num, HF.out⟩
      case measure => simp [intOf]; omega
    · have h' : ¬ (k : Int) < (n : Int) := by omega
      have hkn : k = n := by omega
      have hd := HI.out
      rw [hkn] at hd
      have hfin : DNew n s w (.returned (.tuple #[.pointer (some ⟨p, 0, none⟩), .int .i64 0])) wr := ⟨p, _, rfl, hd.done HN.out (by rcases HS.out with rfl | rfl <;> omega), fun k hk => hk.1, hd.below⟩
      have HF := Lib.hid hfin
      clear hfin hd hkn
      go_wp2_with fail
      go_ret2
      exact HF.out

end Go.Proofs.YtkmpchffflemcaaGreatDoor.En
end

/- Layer 6: a disk of which the power can go. -/
section
set_option linter.unusedVariables false
set_option linter.unusedSimpArgs false
namespace Go.Proofs.YtkmpchffflemcaaGreatDoor.En
open Go.RowKit
open Go.Proofs.YtkmpchffflemcaaGreatDoor.Oc (Bs bytesV byteV okA okA_some okA_none ClOut)

def dvC (d : Dev) (kp : Nat) : Array Value := #[.pointer (some ⟨kp, 0, none⟩), .bool d.down, .int .i64 d.armed, .int .i64 d.count]
structure DvLies (S : Nat → Prop) (w : World) (p : Nat) (d : Dev) (kp : Nat) (SK : Nat → Prop) : Prop where
  own : Arr w p 292 (dvC d kp)
  disk : DkIn kp d.dk SK w
  foot : S p ∧ ∀ k, SK k → S k ∧ k ≠ p
  lt : ∀ k, S k → k < w.heap.size
  arm : -1 ≤ d.armed ∧ d.armed ≤ 9223372036854775807
def DvIn (p : Nat) (d : Dev) (S : Nat → Prop) (w : World) : Prop := ∃ kp SK, DvLies S w p d kp SK
theorem DvIn_loc (p : Nat) (d : Dev) : Loc (DvIn p d) := by
  refine ⟨fun ⟨_, _, h⟩ => h.lt, fun {S w w'} ⟨kp, SK, h⟩ hz hk => ⟨kp, SK, ?_⟩, fun {S T w} ⟨kp, SK, h⟩ hST hT => ⟨kp, SK, ?_⟩⟩
  · exact ⟨(hk p h.foot.1).trans h.own, (DkIn_loc kp d.dk).same h.disk hz (fun k hs => hk k (h.foot.2 k hs).1), h.foot, fun k hs => Nat.lt_of_lt_of_le (h.lt k hs) hz, h.arm⟩
  · exact ⟨h.own, h.disk, ⟨hST _ h.foot.1, fun k hs => ⟨hST _ (h.foot.2 k hs).1, (h.foot.2 k hs).2⟩⟩, hT, h.arm⟩
/-- its own cells have turned -/
theorem DvLies.turn {S : Nat → Prop} {w w' : World} {p kp : Nat} {d d' : Dev} {SK : Nat → Prop} (h : DvLies S w p d kp SK) (ht : Tch (· = p) w w') (ho : Arr w' p 292 (dvC d' kp)) (hd : d'.dk = d.dk) (ha : -1 ≤ d'.armed ∧ d'.armed ≤ 9223372036854775807) : DvLies S w' p d' kp SK :=
  ⟨ho, by rw [hd]; exact (DkIn_loc kp d.dk).tch h.disk ht (fun k hs => (h.foot.2 k hs).2), h.foot, fun k hs => Nat.lt_of_lt_of_le (h.lt k hs) ht.size, ha⟩
/-- its disk has turned -/
theorem DvLies.step {S : Nat → Prop} {w w' : World} {p kp : Nat} {d : Dev} {SK : Nat → Prop} {k' : Dk} (h : DvLies S w p d kp SK) (ht : Tch SK w w') (hd : DkIn kp k' (Gr SK w w') w') : DvLies (Gr S w w') w' p { d with dk := k' } kp (Gr SK w w') :=
  ⟨ht.arr h.own (fun e => (h.foot.2 p e).2 rfl), hd, ⟨.inl h.foot.1, fun k hs => by
    rcases hs with hs | hs
    · exact ⟨.inl (h.foot.2 k hs).1, (h.foot.2 k hs).2⟩
    · exact ⟨.inr hs, fun e => by have := h.own.lt; omega⟩⟩, fun k hs => by
    rcases hs with hs | hs
    · exact Nat.lt_of_lt_of_le (h.lt k hs) ht.size
    · exact hs.2, h.arm⟩
-- power.Device.none
set_option maxRecDepth 100000 in
set_option maxHeartbeats 1000000 in
theorem Pnone_in (p kp : Nat) (w : World) (h : w.cell? ⟨p, 0, none⟩ = some (.pointer (some ⟨kp, 0, none⟩))) : Calls Tryz.prog 129 #[.pointer (some ⟨p, 0, none⟩)] w fun e w' => e = .returned (.bool false) ∧ w' = w := by
  go_enter Tryz.func129, Tryz.ntmps129
  go_wp2_with fail
  go_ret
  exact ⟨rfl, rfl⟩
theorem wrapE (x : Int) : IntKind.i64.wrap x = wrap64 x := by rw [IntKind.wrap_i64]; unfold wrap64; rfl
-- power.Device.made
def MdOut (p kp : Nat) (d : Dev) (w : World) (e : Ending) (w' : World) : Prop := e = .returned (.int .i64 (if d.op.1 = true then 0 else 60)) ∧ Arr w' p 292 (dvC d.op.2 kp) ∧ Tch (· = p) w w'
set_option maxRecDepth 100000 in
set_option maxHeartbeats 2000000 in
theorem made_off (p kp : Nat) (d : Dev) (w : World) (h : Arr w p 292 (dvC d kp)) (hd : d.down = true) : Calls Tryz.prog 248 #[.pointer (some ⟨p, 0, none⟩)] w (MdOut p kp d w) := by
  have x0 : w.cell? ⟨p, 0, none⟩ = some (.pointer (some ⟨kp, 0, none⟩)) := h.cell 0
  have x1 : w.cell? ⟨p, 1, none⟩ = some (.bool true) := by rw [← hd]; exact h.cell 1
  have ho : d.op = (false, d) := by unfold Dev.op; rw [if_pos hd]
  have hf : MdOut p kp d w (.returned (.int .i64 60)) w := by unfold MdOut; rw [ho]; exact ⟨rfl, h, Tch.refl _ _⟩
  have HF := Lib.hid hf
  clear h hd ho hf
  go_enter Tryz.func248, Tryz.ntmps248
  go_wp2_with fail
  refine (Pnone_in p kp w x0).mono ?_
  rintro e w1 ⟨rfl, hw⟩
  rw [hw]
  clear hw w1
  go_wp2_with fail
  go_ret
  exact HF.out
set_option maxRecDepth 100000 in
set_option maxHeartbeats 2000000 in
theorem made_goes (p kp : Nat) (d : Dev) (w : World) (h : Arr w p 292 (dvC d kp)) (hd : d.down = false) (ha : d.armed = 0) : Calls Tryz.prog 248 #[.pointer (some ⟨p, 0, none⟩)] w (MdOut p kp d w) := by
  have x0 : w.cell? ⟨p, 0, none⟩ = some (.pointer (some ⟨kp, 0, none⟩)) := h.cell 0
  have x1 : w.cell? ⟨p, 1, none⟩ = some (.bool false) := by rw [← hd]; exact h.cell 1
  have x2 : w.cell? ⟨p, 2, none⟩ = some (.int .i64 0) := by rw [← ha]; exact h.cell 2
  have m1 := h.mark 1
  have m2 := h.mark 2
  have ho : d.op = (false, { d with down := true, armed := -1 }) := by unfold Dev.op; rw [if_neg (by rw [hd]; simp), if_pos ha]
  have hf : MdOut p kp d w (.returned (.int .i64 60)) ((w.setCell ⟨p, 1, none⟩ (.bool true)).setCell ⟨p, 2, none⟩ (.int .i64 (-1))) := by
    unfold MdOut; rw [ho]
    exact ⟨rfl, by simpa [dvC] using (h.put 1 (.bool true)).put 2 (.int .i64 (-1)), (Tch.at w p 1 _).at2 2 _⟩
  have HF := Lib.hid hf
  clear h hd ho hf ha
  go_enter Tryz.func248, Tryz.ntmps248
  go_wp2_with fail
  refine (Pnone_in p kp w x0).mono ?_
  rintro e w1 ⟨rfl, hw⟩
  rw [hw]
  clear hw w1
  go_wp2_with fail
  go_ret
  exact HF.out
set_option maxRecDepth 100000 in
set_option maxHeartbeats 2000000 in
theorem made_armed (p kp : Nat) (d : Dev) (w : World) (h : Arr w p 292 (dvC d kp)) (hd : d.down = false) (ha : 0 < d.armed) (ha2 : d.armed ≤ 9223372036854775807) : Calls Tryz.prog 248 #[.pointer (some ⟨p, 0, none⟩)] w (MdOut p kp d w) := by
  have x0 : w.cell? ⟨p, 0, none⟩ = some (.pointer (some ⟨kp, 0, none⟩)) := h.cell 0
  have x1 : w.cell? ⟨p, 1, none⟩ = some (.bool false) := by rw [← hd]; exact h.cell 1
  have x2 : w.cell? ⟨p, 2, none⟩ = some (.int .i64 d.armed) := h.cell 2
  have x3 : w.cell? ⟨p, 3, none⟩ = some (.int .i64 d.count) := h.cell 3
  have m2 := h.mark 2
  have m3 := h.mark 3
  have hq : (d.armed == 0) = false := by simp; omega
  have ho : d.op = (true, { d with armed := d.armed - 1, count := IntKind.i64.wrap (d.count + 1) }) := by unfold Dev.op; rw [if_neg (by rw [hd]; simp), if_neg (by omega), if_pos ha]
  obtain ⟨c1, hc1⟩ : ∃ c1, IntKind.i64.wrap (d.count + 1) = c1 := ⟨_, rfl⟩
  have hf : ∀ W : World, W = (w.setCell ⟨p, 2, none⟩ (.int .i64 (d.armed - 1))).setCell ⟨p, 3, none⟩ (.int .i64 c1) → MdOut p kp d w (.returned (.int .i64 0)) W := by
    rintro W rfl
    unfold MdOut; rw [ho]
    exact ⟨rfl, by simpa [dvC, hc1] using (h.put 2 (.int .i64 (d.armed - 1))).put 3 (.int .i64 c1), (Tch.at w p 2 _).at2 3 _⟩
  have HF := Lib.hid hf; have HC := Lib.hid hc1
  clear h hd ho hf hc1
  go_enter Tryz.func248, Tryz.ntmps248
  go_wp2_with fail
  refine (Pnone_in p kp w x0).mono ?_
  rintro e w1 ⟨rfl, hw⟩
  rw [hw]
  clear hw w1
  go_wp2_with fail
  go_ret
  exact HF.out _ (by rw [← HC.out, wrapE])
set_option maxRecDepth 100000 in
set_option maxHeartbeats 2000000 in
theorem made_free (p kp : Nat) (d : Dev) (w : World) (h : Arr w p 292 (dvC d kp)) (hd : d.down = false) (ha : d.armed < 0) : Calls Tryz.prog 248 #[.pointer (some ⟨p, 0, none⟩)] w (MdOut p kp d w) := by
  have x0 : w.cell? ⟨p, 0, none⟩ = some (.pointer (some ⟨kp, 0, none⟩)) := h.cell 0
  have x1 : w.cell? ⟨p, 1, none⟩ = some (.bool false) := by rw [← hd]; exact h.cell 1
  have x2 : w.cell? ⟨p, 2, none⟩ = some (.int .i64 d.armed) := h.cell 2
  have x3 : w.cell? ⟨p, 3, none⟩ = some (.int .i64 d.count) := h.cell 3
  have m3 := h.mark 3
  have hq : (d.armed == 0) = false := by simp; omega
  have hn : ¬ 0 < d.armed := by omega
  have ho : d.op = (true, { d with count := IntKind.i64.wrap (d.count + 1) }) := by unfold Dev.op; rw [if_neg (by rw [hd]; simp), if_neg (by omega), if_neg hn]
  obtain ⟨c1, hc1⟩ : ∃ c1, IntKind.i64.wrap (d.count + 1) = c1 := ⟨_, rfl⟩
  have hf : ∀ W : World, W = w.setCell ⟨p, 3, none⟩ (.int .i64 c1) → MdOut p kp d w (.returned (.int .i64 0)) W := by
    rintro W rfl
    unfold MdOut; rw [ho]
    exact ⟨rfl, by simpa [dvC, hc1] using h.put 3 (.int .i64 c1), Tch.at w p 3 _⟩
  have HF := Lib.hid hf; have HC := Lib.hid hc1
  clear h hd ho hf hc1
  go_enter Tryz.func248, Tryz.ntmps248
  go_wp2_with fail
  refine (Pnone_in p kp w x0).mono ?_
  rintro e w1 ⟨rfl, hw⟩
  rw [hw]
  clear hw w1
  go_wp2_with fail
  go_ret
  exact HF.out _ (by rw [← HC.out, wrapE])
theorem made_in (p kp : Nat) (d : Dev) (w : World) (h : Arr w p 292 (dvC d kp)) (ha : d.armed ≤ 9223372036854775807) : Calls Tryz.prog 248 #[.pointer (some ⟨p, 0, none⟩)] w (MdOut p kp d w) := by
  cases hd : d.down with
  | true => exact made_off p kp d w h hd
  | false =>
    rcases Int.lt_trichotomy d.armed 0 with h1 | h1 | h1
    · exact made_free p kp d w h hd h1
    · exact made_goes p kp d w h hd h1
    · exact made_armed p kp d w h hd h1 ha

end Go.Proofs.YtkmpchffflemcaaGreatDoor.En
end

/- Layer 6: what the device tells; Arm, Restart, New. -/
section
set_option linter.unusedVariables false
set_option linter.unusedSimpArgs false
namespace Go.Proofs.YtkmpchffflemcaaGreatDoor.En
open Go.RowKit
open Go.Proofs.YtkmpchffflemcaaGreatDoor.Oc (Bs bytesV byteV okA okA_some okA_none ClOut)

-- power.Device.Sectors
set_option maxRecDepth 100000 in
set_option maxHeartbeats 1000000 in
theorem PSectors_in {p : Nat} {d : Dev} {S : Nat → Prop} {w : World} (h : DvIn p d S w) : Calls Tryz.prog 81 #[.pointer (some ⟨p, 0, none⟩)] w fun e w' => e = .returned (.int .i64 d.dk.dur.length) ∧ w' = w := by
  obtain ⟨kp, SK, h⟩ := h
  have x0 : w.cell? ⟨p, 0, none⟩ = some (.pointer (some ⟨kp, 0, none⟩)) := h.own.cell 0
  obtain ⟨q, hq⟩ := h.disk
  have HS := Lib.hid (Sectors_in hq)
  clear h hq
  go_enter Tryz.func81, Tryz.ntmps81
  go_wp2_with fail
  refine (Pnone_in p kp w x0).mono ?_
  rintro e w1 ⟨rfl, hw⟩
  rw [hw]
  clear hw w1
  go_wp2_with fail
  refine HS.out.mono ?_
  rintro e w1 ⟨rfl, hw⟩
  rw [hw]
  clear hw w1
  go_wp2_with fail
  go_ret
  exact ⟨rfl, rfl⟩
-- power.Device.Size
set_option maxRecDepth 100000 in
set_option maxHeartbeats 1000000 in
theorem PSize_in {p : Nat} {d : Dev} {S : Nat → Prop} {w : World} (h : DvIn p d S w) : Calls Tryz.prog 82 #[.pointer (some ⟨p, 0, none⟩)] w fun e w' => e = .returned (.int .i64 d.dk.size) ∧ w' = w := by
  obtain ⟨kp, SK, h⟩ := h
  have x0 : w.cell? ⟨p, 0, none⟩ = some (.pointer (some ⟨kp, 0, none⟩)) := h.own.cell 0
  obtain ⟨q, hq⟩ := h.disk
  have HS := Lib.hid (Size_in hq)
  clear h hq
  go_enter Tryz.func82, Tryz.ntmps82
  go_wp2_with fail
  refine (Pnone_in p kp w x0).mono ?_
  rintro e w1 ⟨rfl, hw⟩
  rw [hw]
  clear hw w1
  go_wp2_with fail
  refine HS.out.mono ?_
  rintro e w1 ⟨rfl, hw⟩
  rw [hw]
  clear hw w1
  go_wp2_with fail
  go_ret
  exact ⟨rfl, rfl⟩
-- power.New
set_option maxRecDepth 100000 in
set_option maxHeartbeats 1000000 in
theorem PNew_in {kp : Nat} {k : Dk} {S : Nat → Prop} {w : World} (h : DkIn kp k S w) : Calls Tryz.prog 74 #[.pointer (some ⟨kp, 0, none⟩)] w fun e w' => ∃ p, e = .returned (.tuple #[.pointer (some ⟨p, 0, none⟩), .int .i64 0]) ∧ DvIn p ⟨k, false, -1, 0⟩ (Gr S w w') w' ∧ w.heap.size ≤ p ∧ Below w.heap.size w w' := by
  have HL := Lib.hid (DkIn_loc kp k)
  have HS := Lib.hid (fun j hj => (DkIn_loc kp k).lt h j hj)
  have HH := Lib.hid h
  obtain ⟨q, hq⟩ := h
  have HSE := Lib.hid (Sectors_in hq)
  have hn : ((k.dur.length : Int) == 0) = false := by have := hq.ok.some; rw [beq_eq_false_iff_ne]; omega
  have hn2 : (k.dur.length == 0) = false := by have := hq.ok.some; rw [beq_eq_false_iff_ne]; omega
  clear hq
  go_enter Tryz.func74, Tryz.ntmps74
  go_wp2_with fail
  refine HSE.out.mono ?_
  rintro e w1 ⟨rfl, hw⟩
  rw [hw]
  clear hw w1 HSE
  go_wp2_with fail
  go_ret2
  have hb : Below w.heap.size w (w.alloc (.cells #[.pointer (some ⟨kp, 0, none⟩), .bool false, .int .i64 (-1), .int .i64 0] 292)) := ext_alloc (Below.refl _ _) _
  refine ⟨w.heap.size, rfl, ⟨kp, S, ⟨Arr.fresh w _ _, HL.out.below HH.out hb, ⟨.inr ⟨Nat.le_refl _, by simp⟩, fun j hj => ⟨.inl hj, fun e => by have := HS.out j hj; omega⟩⟩, fun j hj => ?_, by simp⟩⟩, Nat.le_refl _, hb⟩
  rcases hj with hj | hj
  · have := HS.out j hj; simp; omega
  · exact hj.2

end Go.Proofs.YtkmpchffflemcaaGreatDoor.En
end

/- Layer 7: a region: what it tells; the sectors that hold some bytes. -/
section
set_option linter.unusedVariables false
set_option linter.unusedSimpArgs false
namespace Go.Proofs.YtkmpchffflemcaaGreatDoor.En
open Go.RowKit
open Go.Proofs.YtkmpchffflemcaaGreatDoor.Oc (Bs bytesV byteV okA okA_some okA_none ClOut)

/-- a region at block r, of the device at block p -/
structure RgAt (w : World) (r p : Nat) (g : Rg) (size : Nat) : Prop where
  own : Arr w r 176 #[.pointer (some ⟨p, 0, none⟩), .int .i64 g.from_, .int .i64 g.count, .int .i64 size]
  size : 1 ≤ size ∧ size ≤ 4096
  count : 1 ≤ g.count ∧ g.from_ + g.count ≤ 65536
theorem RgAt.keep {w w' : World} {r p : Nat} {g : Rg} {size : Nat} (h : RgAt w r p g size) (hb : Below w.heap.size w w') : RgAt w' r p g size := ⟨h.own.keep hb, h.size, h.count⟩
theorem RgAt.tch {S : Nat → Prop} {w w' : World} {r p : Nat} {g : Rg} {size : Nat} (h : RgAt w r p g size) (ht : Tch S w w') (hr : ¬ S r) : RgAt w' r p g size := ⟨ht.arr h.own hr, h.size, h.count⟩
theorem RgAt.bytes_le {w : World} {r p : Nat} {g : Rg} {size : Nat} (h : RgAt w r p g size) : g.bytes size ≤ 268435456 := by
  have h1 := h.size; have h2 := h.count
  unfold Rg.bytes
  calc g.count * size ≤ 65536 * 4096 := Nat.mul_le_mul (by omega) (by omega)
    _ = 268435456 := by decide
set_option maxRecDepth 100000 in
set_option maxHeartbeats 1000000 in
theorem Rmade_in (r p : Nat) (w : World) (h : w.cell? ⟨r, 0, none⟩ = some (.pointer (some ⟨p, 0, none⟩))) : Calls Tryz.prog 131 #[.pointer (some ⟨r, 0, none⟩)] w fun e w' => e = .returned (.bool true) ∧ w' = w := by
  go_enter Tryz.func131, Tryz.ntmps131
  go_wp2_with fail
  go_ret
  exact ⟨rfl, rfl⟩
set_option maxRecDepth 100000 in
set_option maxHeartbeats 1000000 in
theorem Rbytes_in {r p size : Nat} {g : Rg} {w : World} (h : RgAt w r p g size) : Calls Tryz.prog 132 #[.pointer (some ⟨r, 0, none⟩)] w fun e w' => e = .returned (.int .i64 (g.bytes size : Nat)) ∧ Below w.heap.size w w' := by
  have x2 : w.cell? ⟨r, 2, none⟩ = some (.int .i64 g.count) := h.own.cell 2
  have x3 : w.cell? ⟨r, 3, none⟩ = some (.int .i64 size) := h.own.cell 3
  have hb := h.bytes_le
  have e1 : (g.count : Int) * (size : Int) = ((g.bytes size : Nat) : Int) := by unfold Rg.bytes; push_cast; rfl
  have hw : IntKind.i64.wrap ((g.bytes size : Nat) : Int) = ((g.bytes size : Nat) : Int) := IntWalk.i64_in _ (by omega)
  have hb' : ((g.bytes size : Nat) : Int) ≤ 268435456 := by omega
  clear h
  generalize g.bytes size = B at *
  go_enter Tryz.func132, Tryz.ntmps132
  go_wp2_with fail
  go_quiet (fail)
  go_wp2_with fail
  go_ret
  exact ⟨rfl, ext_drewN (Below.refl _ _) _⟩
set_option maxRecDepth 100000 in
set_option maxHeartbeats 1000000 in
theorem RBytes_in {r p size : Nat} {g : Rg} {w : World} (h : RgAt w r p g size) : Calls Tryz.prog 83 #[.pointer (some ⟨r, 0, none⟩)] w fun e w' => e = .returned (.int .i64 (g.bytes size : Nat)) ∧ Below w.heap.size w w' := by
  have x0 : w.cell? ⟨r, 0, none⟩ = some (.pointer (some ⟨p, 0, none⟩)) := h.own.cell 0
  have HB := Lib.hid (Rbytes_in h)
  clear h
  go_enter Tryz.func83, Tryz.ntmps83
  go_wp2_with fail
  refine (Rmade_in r p w x0).mono ?_
  rintro e w1 ⟨rfl, hw⟩
  rw [hw]
  clear hw w1
  go_wp2_with fail
  refine HB.out.mono ?_
  rintro e w1 ⟨rfl, hw⟩
  have HW := Lib.hid hw
  clear hw
  go_wp2_with fail
  go_ret
  exact ⟨rfl, HW.out⟩
set_option maxRecDepth 100000 in
set_option maxHeartbeats 1000000 in
theorem RSize_in {r p size : Nat} {g : Rg} {w : World} (h : RgAt w r p g size) : Calls Tryz.prog 84 #[.pointer (some ⟨r, 0, none⟩)] w fun e w' => e = .returned (.int .i64 size) ∧ w' = w := by
  have x0 : w.cell? ⟨r, 0, none⟩ = some (.pointer (some ⟨p, 0, none⟩)) := h.own.cell 0
  have x3 : w.cell? ⟨r, 3, none⟩ = some (.int .i64 size) := h.own.cell 3
  clear h
  go_enter Tryz.func84, Tryz.ntmps84
  go_wp2_with fail
  refine (Rmade_in r p w x0).mono ?_
  rintro e w1 ⟨rfl, hw⟩
  rw [hw]
  clear hw w1
  go_wp2_with fail
  go_ret
  exact ⟨rfl, rfl⟩
end Go.Proofs.YtkmpchffflemcaaGreatDoor.En
end

/- slices.Grow of nothing, slices.Concat. -/
section
set_option linter.unusedVariables false
set_option linter.unusedSimpArgs false
namespace Go.Proofs.YtkmpchffflemcaaGreatDoor.Oc
open Go.RowKit

theorem zeroCells_one (v : Value) (n : Nat) : (Builtin.zeroCells #[v] n).size = n := by
  simp [Builtin.zeroCells]
def GwOut (n : Nat) (w : World) (e : Ending) (w' : World) : Prop :=
  ∃ v, e = .returned v ∧ w'.ownsRow w.heap.size 5 1 v 0 [] ∧ (∃ A c, v = .slice A 0 c ∧ A ≠ none ∧ n ≤ c) ∧ Below w.heap.size w w'
-- slices.Grow
set_option maxRecDepth 100000 in
set_option maxHeartbeats 2000000 in
theorem Grow_in (n : Nat) (w : World) (h0 : 0 < n) (hn : n ≤ 70368744177664) : Calls Tryz.prog 250 #[.slice none 0 0, .int .i64 n] w (GwOut n w) := by
  obtain ⟨i0, hi, hz0, hz1, hz2⟩ := info_parts u8_info
  have h1 : ¬ (n : Int) < 0 := by omega
  have h2 : (0 : Int) < (n : Int) := by omega
  obtain ⟨cp, hcp⟩ : ∃ cp, grownCap w n 0 5 = cp := ⟨_, rfl⟩
  have hc1 : n ≤ cp := by rw [← hcp]; exact grownCap_ge _ _ _ _
  have hc2 : cp ≤ maxLen := by rw [← hcp]; exact grownCap_le_maxLen _ _ _ _ (by unfold maxLen; omega)
  have hrun := Go.Lib.run_append_nil_zeros (P := Tryz.prog) w 22 3 22 5 i0 (.int .u8 0) .i64 .i64 Tryz.underlying22 Tryz.underlying3 hi hz0 n h0 (by rw [hz1]; decide) (by omega) (by rw [hz2]; omega)
  rw [hcp] at hrun
  obtain ⟨ZC, hZC⟩ : ∃ ZC, Builtin.zeroCells (Value.int .u8 0).cells n ++ Builtin.zeroCells (Value.int .u8 0).cells (cp - n) = ZC := ⟨_, rfl⟩
  have hzs : ZC.size = cp := by rw [← hZC, show (Value.int IntKind.u8 0).cells = #[.int .u8 0] from rfl, Array.size_append, zeroCells_one, zeroCells_one]; omega
  rw [hZC] at hrun
  obtain ⟨w1, hw1⟩ : ∃ w1, w.drew.alloc (.cells ZC 5) = w1 := ⟨_, rfl⟩
  rw [hw1] at hrun
  have hb1 : Below w.heap.size w w1 := by rw [← hw1]; exact ext_alloc (ext_drew (Below.refl _ _)) _
  have ho : w1.ownsRow w.heap.size 5 1 (.slice (some ⟨w.heap.size, 0, none⟩) 0 cp) 0 [] := by
    refine ⟨rfl, .inr ⟨w.heap.size, cp, ZC, rfl, Nat.le_refl _, ?_, Nat.zero_le _, hc2, by rw [hzs, Nat.mul_one], by simp⟩⟩
    rw [← hw1]; exact Arr.fresh w.drew _ _
  have hc3 : (0 : Int) ≤ (cp : Int) := by omega
  have HF := Lib.hid (show GwOut n w (.returned (.slice (some ⟨w.heap.size, 0, none⟩) 0 cp)) w1 from ⟨_, rfl, ho, ⟨_, _, rfl, by simp, hc1⟩, hb1⟩)
  have HRUN := Lib.hid hrun
  clear hb1 ho hw1 hcp hc1 hc2 hZC hzs hi hz0 hz1 hz2 hrun
  go_enter Tryz.func250, Tryz.ntmps250
  go_wp2_with (refine Go.Lib.wpList_append_run _ rfl _ _ 22 3 rfl (.slice none 0 0) (.int .i64 n) rfl rfl _ _ HRUN.out ?_)
  go_ret
  exact HF.out
def lenTo (L : List (List UInt8)) (k : Nat) : Nat := ((L.take k).flatten).length
theorem flat_step {L : List (List UInt8)} {k : Nat} (h : k < L.length) : (L.take (k + 1)).flatten = (L.take k).flatten ++ L[k] := by
  rw [List.take_add_one, List.getElem?_eq_getElem h, List.flatten_append, Option.toList_some, List.flatten_cons, List.flatten_nil, List.append_nil]
theorem flat_le (L : List (List UInt8)) (k : Nat) : ((L.take k).flatten).length ≤ L.flatten.length := by
  conv => rhs; rw [← List.take_append_drop k L]
  rw [List.flatten_append, List.length_append]; omega
-- slices.Concat
set_option maxRecDepth 100000 in
set_option maxHeartbeats 4000000 in
theorem Concat_in (L : List (List UInt8)) (sb sc : Nat) (w : World) (ad : Nat → Addr) (cc : Nat → Nat) (hc : ∀ i (h : i < L.length), w.cell? ⟨sb, i, none⟩ = some (.slice (some (ad i)) (L[i]).length (cc i)))
    (hB : ∀ i (h : i < L.length), Bs w (some (ad i)) L[i]) (hsb : sb < w.heap.size) (h0 : 0 < L.flatten.length) (hl : L.flatten.length ≤ 67108864) (hlc : L.length ≤ 1000) :
    Calls Tryz.prog 218 #[.slice (some ⟨sb, 0, none⟩) L.length sc] w fun e w' => ∃ g c, e = .returned (.slice (some ⟨g, 0, none⟩) L.flatten.length c) ∧ w.heap.size ≤ g ∧ L.flatten.length ≤ c ∧ Blk w' 5 g L.flatten ∧ Below w.heap.size w w' := by
  have HC := Lib.hid hc; have HB := Lib.hid hB
  have hlc' : (L.length : Int) ≤ 1000 := by omega
  obtain ⟨N, hN⟩ : ∃ N, L.flatten.length = N := ⟨_, rfl⟩
  rw [hN] at h0 hl ⊢
  have HN := Lib.hid hN
  have hN0 : (0 : Int) ≤ (N : Int) := by omega
  clear hc hB hN
  go_enter Tryz.func218, Tryz.ntmps218
  go_wp2_with fail
  go_loopw [3, 11] (fun s i wr => ∃ k : Nat, k ≤ L.length ∧ i = .int .i64 k ∧ s = .int .i64 (lenTo L k : Nat) ∧ Below w.heap.size w wr) (fun _ i _ => (L.length - intOf i).toNat)
  case atStart => exact ⟨0, Nat.zero_le _, rfl, rfl, Below.refl _ _⟩
  case round =>
    obtain ⟨k, hk, rfl, rfl, hb⟩ := hrel
    have HWB := Lib.hid hb
    clear hb
    by_cases hlt : k < L.length
    · have hlt' : (k : Int) < (L.length : Int) := by omega
      have hk0 : (0 : Int) ≤ (k : Int) := by omega
      have x0 : wr.cell? ⟨sb, k, none⟩ = some (.slice (some (ad k)) (L[k]).length (cc k)) := (HWB.out.cell (p := ⟨sb, k, none⟩) hsb).trans (HC.out k hlt)
      obtain ⟨a, ha⟩ : ∃ a, lenTo L k = a := ⟨_, rfl⟩
      obtain ⟨m, hm⟩ : ∃ m, (L[k]).length = m := ⟨_, rfl⟩
      have hst : lenTo L (k + 1) = a + m := by rw [lenTo, flat_step hlt, List.length_append, hm, ← ha]; rfl
      have hle : a + m ≤ 67108864 := by have := flat_le L (k + 1); rw [HN.out] at this; rw [← hst]; exact Nat.le_trans this hl
      have hle' : (a : Int) + (m : Int) ≤ 67108864 := by omega
      rw [ha]
      rw [hm] at x0
      have hng : ¬ ((a : Int) + (m : Int)) < 0 := by omega
      have HST := Lib.hid hst
      clear ha hm hst hle
      go_wp2_with fail
      go_roundw
      case rel => exact ⟨k + 1, hlt, by go_num, by rw [HST.out]; push_cast; rfl, HWB.out⟩
      case measure => simp [intOf]; omega
    · have hkm : k = L.length := by omega
      subst hkm
      rw [show lenTo L L.length = N from by rw [lenTo, List.take_length]; exact HN.out]
      have hlt' : ¬ ((L.length : Nat) : Int) < ((L.length : Nat) : Int) := by omega
      have HG := Lib.hid (Grow_in N wr h0 (by omega))
      go_wp2_with fail
      refine HG.out.mono ?_
      rintro e w2 ⟨v2, rfl, ho2, ⟨A2, c2, rfl, hA2, hc2⟩, hb2⟩
      have HO2 := Lib.hid ho2; have HWB2 := Lib.hid hb2; have HC2 := Lib.hid hc2
      clear ho2 hb2 hc2 hA2
      have hbw2 : Below w.heap.size w w2 := ext_trans HWB.out HWB2.out
      obtain ⟨base, hbase⟩ : ∃ base, wr.heap.size = base := ⟨_, rfl⟩
      rw [hbase] at HO2
      have hbw : w.heap.size ≤ base := by rw [← hbase]; exact HWB.out.size
      have hb2s : base ≤ w2.heap.size := by rw [← hbase]; exact HWB2.out.size
      have HBW2 := Lib.hid hbw2; have HBW := Lib.hid hbw; have HBS := Lib.hid hb2s
      clear hbw2 hbw hb2s hbase HWB HWB2 HC2
      obtain ⟨n0, hn0⟩ : ∃ n0, L.length = n0 := ⟨_, rfl⟩
      go_wp2_with fail
      go_loopw [6, 27] (fun v i wr => ∃ k : Nat, k ≤ L.length ∧ i = .int .i64 k ∧ wr.ownsRow base 5 1 v (lenTo L k) (bytesV (L.take k).flatten) ∧ Below w.heap.size w wr ∧ base ≤ wr.heap.size) (fun _ i _ => (L.length - intOf i).toNat)
      case atStart => exact ⟨0, Nat.zero_le _, rfl, HO2.out, HBW2.out, HBS.out⟩
      case round =>
        obtain ⟨k, hk, rfl, ho, hb, hs⟩ := hrel
        by_cases hlt : k < L.length
        · have hlt' : (k : Int) < (n0 : Int) := by omega
          have hk0 : (0 : Int) ≤ (k : Int) := by omega
          have x0 := (hb.cell (p := ⟨sb, k, none⟩) hsb).trans (HC.out k hlt)
          obtain ⟨i0, hi, hz0, hz1, hz2⟩ := info_parts u8_info
          have hst : lenTo L (k + 1) = lenTo L k + (L[k]).length := by rw [lenTo, flat_step hlt, List.length_append]; rfl
          have hle : lenTo L k + (L[k]).length ≤ 67108864 := by have := flat_le L (k + 1); rw [HN.out] at this; rw [← hst]; exact Nat.le_trans this hl
          have hBk : Bs wr (some (ad k)) L[k] := (HB.out k hlt).keep hb
          obtain ⟨m, hm⟩ : ∃ m, (L[k]).length = m := ⟨_, rfl⟩
          obtain ⟨a, ha⟩ : ∃ a, lenTo L k = a := ⟨_, rfl⟩
          obtain ⟨cs, hcs⟩ : ∃ cs, L[k] = cs := ⟨_, rfl⟩
          obtain ⟨fl, hfl⟩ : ∃ fl, (L.take k).flatten = fl := ⟨_, rfl⟩
          have hf1 : (L.take (k + 1)).flatten = fl ++ cs := by rw [flat_step hlt, hfl, hcs]
          rw [hm, ha] at hst hle
          rw [hm] at x0
          rw [hcs] at hBk hm
          rw [ha, hfl] at ho
          have HO := Lib.hid ho; have HWB := Lib.hid hb; have HS := Lib.hid hs; have HBK := Lib.hid hBk; have HM := Lib.hid hm; have HLE := Lib.hid hle; have HST := Lib.hid hst; have HF1 := Lib.hid hf1
          have HI0 := Lib.hid hi; have HZ0 := Lib.hid hz0; have HZ1 := Lib.hid hz1; have HZ2 := Lib.hid hz2
          clear ho hb hs hBk hm ha hcs hfl hle hst hf1 hi hz0 hz1 hz2
          go_wp2_with (refine wpList_append_own _ rfl _ _ 22 rfl base 5 i0 (.int .u8 0) 1 1 Tryz.underlying22 HI0.out HZ0.out HZ1.out HZ2.out rfl (by decide) u6 a (bytesV fl) rfl HO.out (ad k) m (cc k) (bytesV cs) rfl (by rw [bytesV_len, HM.out, Nat.mul_one]) HBK.out.read (bytesV_one _) (by have := HLE.out; unfold maxLen; omega) (by have := HLE.out; omega) HS.out ?_; intro v5 w5 hown5 hgr5 hnil5; have HO5 := Lib.hid hown5; have HG5 := Lib.hid hgr5; clear hown5 hgr5 hnil5)
          go_roundw
          case rel => exact ⟨k + 1, hlt, by go_num, by rw [HST.out, HF1.out, bytesV_app]; exact HO5.out, HWB.out.grown HG5.out HWB.out.size (fun g hg => Nat.le_trans HBW.out (own_base HO.out g hg)), Nat.le_trans HS.out HG5.out.size⟩
          case measure => simp [intOf]; omega
        · have hkm : k = L.length := by omega
          subst hkm
          have hlt' : ¬ ((L.length : Nat) : Int) < (n0 : Int) := by omega
          rw [show lenTo L L.length = N from by rw [lenTo, List.take_length]; exact HN.out, List.take_length] at ho
          obtain ⟨A, c, rfl⟩ := own_slice ho
          obtain ⟨g, cp, hv⟩ := own_forms ho (by intro e; injection e with e1 e2 _; omega)
          injection hv with hv1 _ hv3
          subst hv1 hv3
          obtain ⟨h1, h2, h3, _⟩ := own_blk ho HN.out
          have HF := Lib.hid (show ∃ g' c', Ending.returned (.slice (some ⟨g, 0, none⟩) N c) = .returned (.slice (some ⟨g', 0, none⟩) N c') ∧ w.heap.size ≤ g' ∧ N ≤ c' ∧ Blk wr 5 g' L.flatten ∧ Below w.heap.size w wr from ⟨g, c, rfl, Nat.le_trans HBW.out h3, h2, h1, hb⟩)
          clear ho h1 h2 h3 hb hs
          go_wp2_with fail
          go_ret
          exact HF.out
end Go.Proofs.YtkmpchffflemcaaGreatDoor.Oc
end

/- Layer 7: a region is written. -/
section
set_option linter.unusedVariables false
set_option linter.unusedSimpArgs false
namespace Go.Proofs.YtkmpchffflemcaaGreatDoor.En
open Go.RowKit
open Go.Proofs.YtkmpchffflemcaaGreatDoor.Oc (Bs bytesV byteV okA okA_some okA_none ClOut bytesV_len bytesV_one bytesV_app u8_info own_blk Concat_in)

theorem DvIn.ok {p : Nat} {d : Dev} {S : Nat → Prop} {w : World} (h : DvIn p d S w) : d.dk.Ok := by
  obtain ⟨kp, SK, h1⟩ := h; obtain ⟨q, h2⟩ := h1.disk; exact h2.ok
end Go.Proofs.YtkmpchffflemcaaGreatDoor.En
end

/- Layer 3: sums of bytes. -/
section
set_option linter.unusedVariables false
set_option linter.unusedSimpArgs false
namespace Go.Proofs.YtkmpchffflemcaaGreatDoor.Cr
open Go.RowKit
open Go.Proofs.YtkmpchffflemcaaGreatDoor.Oc (Bs bytesV byteV)

/-- the table's cells -/
def CrcTab (w : World) : Prop := ∀ i : Nat, i < 16 → w.cell? ⟨1, i, none⟩ = some (.int .u32 (tblN.getD i 0 : Nat))
theorem CrcTab.same {w w' : World} (h : CrcTab w) (hk : w'.heap[1]? = w.heap[1]?) : CrcTab w' := fun i hi => by
  rw [← h i hi]; simp [World.cell?, hk]
theorem CrcTab.keep {w w' : World} (h : CrcTab w) (hb : Below w.heap.size w w') : CrcTab w' := h.same (hb.block _ (World.block_lt_of_cell? w _ (h 0 (by decide))))
theorem CrcTab.tch {S : Nat → Prop} {w w' : World} (h : CrcTab w) (ht : Tch S w w') (hS : ¬ S 1) : CrcTab w' := h.same (ht.block _ (World.block_lt_of_cell? w _ (h 0 (by decide))) hS)
theorem CrcTab.lt {w : World} (h : CrcTab w) : 1 < w.heap.size := World.block_lt_of_cell? w _ (h 0 (by decide))
end Go.Proofs.YtkmpchffflemcaaGreatDoor.Cr
end

/- Layer 10: a log. -/
section
set_option linter.unusedVariables false
set_option linter.unusedSimpArgs false
namespace Go.Proofs.YtkmpchffflemcaaGreatDoor.En
open Go.RowKit
open Go.Proofs.YtkmpchffflemcaaGreatDoor.Oc (Bs bytesV byteV okA okA_some okA_none ClOut bytesV_len bytesV_one bytesV_app u8_info own_blk)

def lgC (l : Lg) (r : Nat) (v : Value) : Array Value := #[v, .int .i64 (l.written.length : Nat), .int .u64 (l.durable : Nat), .int .u64 (l.last : Nat), .pointer (some ⟨r, 0, none⟩), .int .u64 (l.epoch : Nat)]
structure LgLies (S : Nat → Prop) (w : World) (q r p : Nat) (l : Lg) (g : Rg) (size : Nat) (v : Value) : Prop where
  own : Arr w q 185 (lgC l r v)
  rg : RgAt w r p g size
  row : w.ownsRow 0 5 1 v l.waits.length (bytesV l.waits)
  foot : S q ∧ S r ∧ ∀ k, v.ownBlock = some k → S k ∧ k ≠ q ∧ k ≠ r
  lt : ∀ k, S k → k < w.heap.size
  ok : l.Ok
  fit : l.used ≤ g.bytes size
def LgIn (q r p : Nat) (l : Lg) (g : Rg) (size : Nat) (S : Nat → Prop) (w : World) : Prop := ∃ v, LgLies S w q r p l g size v
theorem LgIn_loc (q r p : Nat) (l : Lg) (g : Rg) (size : Nat) : Loc (LgIn q r p l g size) := by
  refine ⟨fun ⟨_, h⟩ => h.lt, fun {S w w'} ⟨v, h⟩ hz hk => ⟨v, ?_⟩, fun {S T w} ⟨v, h⟩ hST hT => ⟨v, ?_⟩⟩
  · exact ⟨(hk q h.foot.1).trans h.own, ⟨(hk r h.foot.2.1).trans h.rg.own, h.rg.size, h.rg.count⟩, own_same h.row fun k hb => hk k (h.foot.2.2 k hb).1, h.foot, fun k hs => Nat.lt_of_lt_of_le (h.lt k hs) hz, h.ok, h.fit⟩
  · exact ⟨h.own, h.rg, h.row, ⟨hST _ h.foot.1, hST _ h.foot.2.1, fun k hk => ⟨hST _ (h.foot.2.2 k hk).1, (h.foot.2.2 k hk).2⟩⟩, hT, h.ok, h.fit⟩
theorem LgLies.small {S : Nat → Prop} {w : World} {q r p : Nat} {l : Lg} {g : Rg} {size : Nat} {v : Value} (h : LgLies S w q r p l g size v) : l.written.length + l.waits.length ≤ 268435456 ∧ l.used = l.written.length + l.waits.length := by
  have h1 := l.used_split h.ok.done
  have h2 := h.fit
  have h3 := h.rg.bytes_le
  exact ⟨by omega, h1⟩
set_option maxRecDepth 100000 in
set_option maxHeartbeats 1000000 in
theorem Lmade_in (q r : Nat) (w : World) (h : w.cell? ⟨q, 4, none⟩ = some (.pointer (some ⟨r, 0, none⟩))) : Calls Tryz.prog 133 #[.pointer (some ⟨q, 0, none⟩)] w fun e w' => e = .returned (.bool true) ∧ w' = w := by
  go_enter Tryz.func133, Tryz.ntmps133
  go_wp2_with fail
  go_ret
  exact ⟨rfl, rfl⟩
set_option maxRecDepth 100000 in
set_option maxHeartbeats 1000000 in
theorem Lused_in {S : Nat → Prop} {w : World} {q r p : Nat} {l : Lg} {g : Rg} {size : Nat} {v : Value} (h : LgLies S w q r p l g size v) : Calls Tryz.prog 134 #[.pointer (some ⟨q, 0, none⟩)] w fun e w' => e = .returned (.int .i64 (l.used : Nat)) ∧ Below w.heap.size w w' := by
  obtain ⟨A, c, rfl⟩ := own_slice h.row
  have x0 : w.cell? ⟨q, 0, none⟩ = some (.slice A l.waits.length c) := h.own.cell 0
  have x1 : w.cell? ⟨q, 1, none⟩ = some (.int .i64 (l.written.length : Nat)) := h.own.cell 1
  obtain ⟨h1, h2⟩ := h.small
  rw [h2]
  obtain ⟨a, ha⟩ : ∃ a, l.written.length = a := ⟨_, rfl⟩
  obtain ⟨b, hb⟩ : ∃ b, l.waits.length = b := ⟨_, rfl⟩
  rw [ha, hb] at h1 ⊢
  rw [ha] at x1
  rw [hb] at x0
  have hab : (a : Int) + (b : Int) ≤ 268435456 := by omega
  have hw : IntKind.i64.wrap ((a : Int) + (b : Int)) = ((a + b : Nat) : Int) := by rw [IntWalk.i64_in _ (by omega)]; push_cast; rfl
  clear h h1 h2 ha hb
  go_enter Tryz.func134, Tryz.ntmps134
  go_wp2_with fail
  go_quiet (fail)
  go_wp2_with fail
  go_ret
  exact ⟨rfl, ext_drewN (Below.refl _ _) _⟩
set_option maxRecDepth 100000 in
set_option maxHeartbeats 1000000 in
theorem LRoom_in {S : Nat → Prop} {w : World} {q r p : Nat} {l : Lg} {g : Rg} {size : Nat} {v : Value} (h : LgLies S w q r p l g size v) : Calls Tryz.prog 89 #[.pointer (some ⟨q, 0, none⟩)] w fun e w' => e = .returned (.int .i64 (g.bytes size - l.used : Nat)) ∧ Below w.heap.size w w' := by
  have x4 : w.cell? ⟨q, 4, none⟩ = some (.pointer (some ⟨r, 0, none⟩)) := h.own.cell 4
  have L := LgIn_loc q r p l g size
  have HRB := Lib.hid fun (W : World) (hW : Below w.heap.size w W) => RBytes_in (h.rg.keep hW)
  have HUS := Lib.hid fun (W : World) (hW : Below w.heap.size w W) => by
    obtain ⟨v', h'⟩ := L.below ⟨v, h⟩ hW
    exact Lused_in h'
  have h1 := h.fit
  have h2 := h.rg.bytes_le
  obtain ⟨a, ha⟩ : ∃ a, g.bytes size = a := ⟨_, rfl⟩
  obtain ⟨b, hb⟩ : ∃ b, l.used = b := ⟨_, rfl⟩
  rw [ha] at HRB h1 h2 ⊢
  rw [hb] at HUS h1 ⊢
  have hab : (a : Int) - (b : Int) = ((a - b : Nat) : Int) := by omega
  have ha4 : (a : Int) ≤ 268435456 := by omega
  have hwr : IntKind.i64.wrap ((a - b : Nat) : Int) = ((a - b : Nat) : Int) := IntWalk.i64_in _ (by omega)
  have hba : (b : Int) ≤ (a : Int) := by omega
  clear h ha hb h1 h2 L
  go_enter Tryz.func89, Tryz.ntmps89
  go_wp2_with fail
  refine (Lmade_in q r w x4).mono ?_
  rintro e w1 ⟨rfl, hw1⟩
  rw [hw1]
  clear hw1 w1
  go_wp2_with fail
  refine wp_region_held_drew (S := (fun w' => w'.cell? ⟨q, 4, none⟩ = some (.pointer (some ⟨r, 0, none⟩)))) (by kernel_rfl) (by exact x4) (fun hHeld => ?_)
  refine tky 0 (some 6) hHeld ?_
  try simp only [Act.put, List.setIfInBounds_toArray, List.set_cons_zero, List.set_cons_succ]
  refine tky 1 (some 7) hHeld ?_
  try simp only [Act.put, List.setIfInBounds_toArray, List.set_cons_zero, List.set_cons_succ]
  refine tky 2 (some 8) hHeld ?_
  try simp only [Act.put, List.setIfInBounds_toArray, List.set_cons_zero, List.set_cons_succ]
  refine tky 3 (some 9) hHeld ?_
  try simp only [Act.put, List.setIfInBounds_toArray, List.set_cons_zero, List.set_cons_succ]
  refine tky 5 (some 11) hHeld ?_
  try simp only [Act.put, List.setIfInBounds_toArray, List.set_cons_zero, List.set_cons_succ]
  refine tky 6 (some 12) hHeld ?_
  try simp only [Act.put, List.setIfInBounds_toArray, List.set_cons_zero, List.set_cons_succ]
  refine tky 7 (some 13) hHeld ?_
  try simp only [Act.put, List.setIfInBounds_toArray, List.set_cons_zero, List.set_cons_succ]
  refine wpAnyH_ready (rs := [4]) (by kernel_rfl) (by simp) ?_
  refine AllReadyH.cons rfl (fun K hK => ?_) AllReadyH.nil
  go_simp
  refine (HRB.out _ (ext_drew (Below.refl _ _))).mono ?_
  rintro e w2 ⟨rfl, hw2⟩
  have hw2' : Below w.heap.size w w2 := ext_trans (ext_drew (Below.refl _ _)) hw2
  have q4 : w2.cell? ⟨q, 4, none⟩ = some (.pointer (some ⟨r, 0, none⟩)) := (hw2'.cell (p := ⟨q, 4, none⟩) (World.block_lt_of_cell? _ _ x4)).trans x4
  have HW2 := Lib.hid hw2'
  clear hw2 hw2'
  go_wp2_with fail
  refine hK.out _ _ (by exact q4) (fun hHeld4 => ?_)
  clear hK K
  try simp only [Act.put, List.setIfInBounds_toArray, List.set_cons_zero, List.set_cons_succ]
  refine wpAnyH_ready (rs := [8]) (by kernel_rfl) (by simp) ?_
  refine AllReadyH.cons rfl (fun K hK => ?_) AllReadyH.nil
  go_simp
  refine (HUS.out _ HW2.out).mono ?_
  rintro e w3 ⟨rfl, hw3⟩
  have hw3' : Below w.heap.size w w3 := ext_trans HW2.out hw3
  have r4 : w3.cell? ⟨q, 4, none⟩ = some (.pointer (some ⟨r, 0, none⟩)) := (hw3'.cell (p := ⟨q, 4, none⟩) (World.block_lt_of_cell? _ _ x4)).trans x4
  have HW3 := Lib.hid hw3'
  clear hw3 hw3'
  go_wp2_with fail
  refine hK.out _ _ (by exact r4) (fun hHeld8 => ?_)
  clear hK K
  try simp only [Act.put, List.setIfInBounds_toArray, List.set_cons_zero, List.set_cons_succ]
  refine tky 9 (some 15) hHeld8 ?_
  try simp only [Act.put, List.setIfInBounds_toArray, List.set_cons_zero, List.set_cons_succ]
  refine tky 10 (some 2) hHeld8 ?_
  try simp only [Act.put, List.setIfInBounds_toArray, List.set_cons_zero, List.set_cons_succ]
  refine wpAnyH_done (by kernel_rfl) ?_ _
  go_wp2_with fail
  go_ret
  exact ⟨rfl, HW3.out⟩
set_option maxRecDepth 100000 in
set_option maxHeartbeats 1000000 in
theorem LUsed_in {S : Nat → Prop} {w : World} {q r p : Nat} {l : Lg} {g : Rg} {size : Nat} {v : Value} (h : LgLies S w q r p l g size v) : Calls Tryz.prog 90 #[.pointer (some ⟨q, 0, none⟩)] w fun e w' => e = .returned (.int .i64 (l.used : Nat)) ∧ Below w.heap.size w w' := by
  have x4 : w.cell? ⟨q, 4, none⟩ = some (.pointer (some ⟨r, 0, none⟩)) := h.own.cell 4
  have HUS := Lib.hid (Lused_in h)
  clear h
  go_enter Tryz.func90, Tryz.ntmps90
  go_wp2_with fail
  refine (Lmade_in q r w x4).mono ?_
  rintro e w1 ⟨rfl, hw1⟩
  rw [hw1]
  clear hw1 w1
  go_wp2_with fail
  refine HUS.out.mono ?_
  rintro e w1 ⟨rfl, hw1⟩
  have HW := Lib.hid hw1
  clear hw1
  go_wp2_with fail
  go_ret
  exact ⟨rfl, HW.out⟩
end Go.Proofs.YtkmpchffflemcaaGreatDoor.En
end

/- Layer 10: a log: Append, Reset, New. -/
section
set_option linter.unusedVariables false
set_option linter.unusedSimpArgs false
namespace Go.Proofs.YtkmpchffflemcaaGreatDoor.En
open Go.RowKit
open Go.Proofs.YtkmpchffflemcaaGreatDoor.Oc (Bs bytesV byteV okA okA_some okA_none ClOut bytesV_len bytesV_one bytesV_app u8_info own_blk)
open Go.Proofs.YtkmpchffflemcaaGreatDoor.Cr (CrcTab)

def NwOut (r p : Nat) (l : Lg) (g : Rg) (size : Nat) (w : World) (e : Ending) (w' : World) : Prop := ∃ q, e = .returned (.tuple #[.pointer (some ⟨q, 0, none⟩), .int .i64 0]) ∧ w.heap.size ≤ q ∧ LgIn q r p l g size (fun k => k = q ∨ k = r) w' ∧ Below w.heap.size w w'
set_option maxRecDepth 100000 in
set_option maxHeartbeats 4000000 in
theorem LNew_in {w : World} {r p : Nat} {g : Rg} {size : Nat} (h : RgAt w r p g size) (ep seq : Nat) (hep : ep < 18446744073709551616) (hseq : seq < 18446744073709551616) :
    Calls Tryz.prog 36 #[.pointer (some ⟨r, 0, none⟩), .int .u64 ep, .int .u64 seq] w (NwOut r p ⟨ep, seq, [], 0⟩ g size w) := by
  have HRB := Lib.hid (RBytes_in h)
  have hby := h.bytes_le
  have hb0 : 1 ≤ g.bytes size := by
    have h1 := h.size; have h2 := h.count
    unfold Rg.bytes
    exact Nat.mul_pos h2.1 h1.1
  obtain ⟨B, hB⟩ : ∃ B, g.bytes size = B := ⟨_, rfl⟩
  rw [hB] at HRB hby hb0
  have hq : ((B : Int) == 0) = false := by rw [beq_eq_false_iff_ne]; omega
  have hq2 : (B == 0) = false := by rw [beq_eq_false_iff_ne]; omega
  have H := Lib.hid h; have HEP := Lib.hid hep; have HSQ := Lib.hid hseq
  clear h hep hseq hby hb0 hB
  go_enter Tryz.func36, Tryz.ntmps36
  go_wp2_with fail
  refine HRB.out.mono ?_
  rintro e w1 ⟨rfl, hb1⟩
  have HB1 := Lib.hid hb1
  clear hb1
  go_wp2_with fail
  go_ret2
  obtain ⟨wf, hwf⟩ : ∃ wf, w1.alloc (.cells #[.slice none 0 0, .int .i64 0, .int .u64 ((seq : Nat) : Int), .int .u64 ((seq : Nat) : Int), .pointer (some ⟨r, 0, none⟩), .int .u64 ((ep : Nat) : Int)] 185) = wf := ⟨_, rfl⟩
  rw [hwf]
  have hbf : Below w1.heap.size w1 wf := by rw [← hwf]; exact ext_alloc (Below.refl _ _) _
  have hof : Arr wf w1.heap.size 185 #[.slice none 0 0, .int .i64 0, .int .u64 ((seq : Nat) : Int), .int .u64 ((seq : Nat) : Int), .pointer (some ⟨r, 0, none⟩), .int .u64 ((ep : Nat) : Int)] := by rw [← hwf]; exact Arr.fresh w1 _ _
  have hrf : RgAt wf r p g size := (H.out.keep HB1.out).keep hbf
  refine ⟨w1.heap.size, rfl, HB1.out.size, ⟨.slice none 0 0, hof, hrf, own_nil wf 0 1 _, ⟨.inl rfl, .inr rfl, fun k hk => by simp [Value.ownBlock] at hk⟩, fun k hk => ?_, ⟨Nat.le_refl _, HSQ.out, HEP.out, fun x hx => by cases hx⟩, Nat.zero_le _⟩, ext_trans HB1.out hbf⟩
  rcases hk with rfl | rfl
  · exact hof.lt
  · exact hrf.own.lt

end Go.Proofs.YtkmpchffflemcaaGreatDoor.En
end

/- Layer 11: slots: there, Bytes, may, Header. -/
section
set_option linter.unusedVariables false
set_option linter.unusedSimpArgs false
namespace Go.Proofs.YtkmpchffflemcaaGreatDoor.En
open Go.RowKit
open Go.Proofs.YtkmpchffflemcaaGreatDoor.Oc (le val Bs bytesV byteV okA okA_some okA_none ClOut bytesV_len bytesV_one bytesV_app u8_info own_blk AdOut WrAt WTwo_in WFour_in WEight_in WPut_in WOut_in)
open Go.Proofs.YtkmpchffflemcaaGreatDoor.Cr (CrcTab crc)

/-- slots at block s -/
structure SlAt (w : World) (s ra rb p : Nat) (sl : Sl) (size : Nat) : Prop where
  own : Arr w s 181 #[.pointer (some ⟨ra, 0, none⟩), .pointer (some ⟨rb, 0, none⟩)]
  a : RgAt w ra p sl.a size
  b : RgAt w rb p sl.b size
  eq : sl.b.count = sl.a.count
  two : 2 ≤ sl.a.count
theorem SlAt.keep {w w' : World} {s ra rb p : Nat} {sl : Sl} {size : Nat} (h : SlAt w s ra rb p sl size) (hb : Below w.heap.size w w') : SlAt w' s ra rb p sl size := ⟨h.own.keep hb, h.a.keep hb, h.b.keep hb, h.eq, h.two⟩
theorem SlAt.tch {S : Nat → Prop} {w w' : World} {s ra rb p : Nat} {sl : Sl} {size : Nat} (h : SlAt w s ra rb p sl size) (ht : Tch S w w') (h1 : ¬ S s) (h2 : ¬ S ra) (h3 : ¬ S rb) : SlAt w' s ra rb p sl size := ⟨ht.arr h.own h1, h.a.tch ht h2, h.b.tch ht h3, h.eq, h.two⟩
set_option maxRecDepth 100000 in
set_option maxHeartbeats 1000000 in
theorem Sthere_in (s ra : Nat) (w : World) (h : w.cell? ⟨s, 0, none⟩ = some (.pointer (some ⟨ra, 0, none⟩))) : Calls Tryz.prog 135 #[.pointer (some ⟨s, 0, none⟩)] w fun e w' => e = .returned (.bool true) ∧ w' = w := by
  go_enter Tryz.func135, Tryz.ntmps135
  go_wp2_with fail
  go_ret
  exact ⟨rfl, rfl⟩
set_option maxRecDepth 100000 in
set_option maxHeartbeats 1000000 in
theorem SBytes_in {w : World} {s ra rb p : Nat} {sl : Sl} {size : Nat} (h : SlAt w s ra rb p sl size) : Calls Tryz.prog 91 #[.pointer (some ⟨s, 0, none⟩)] w fun e w' => e = .returned (.int .i64 (sl.bytes size : Nat)) ∧ Below w.heap.size w w' := by
  have x0 : w.cell? ⟨s, 0, none⟩ = some (.pointer (some ⟨ra, 0, none⟩)) := h.own.cell 0
  have HRB := Lib.hid fun (W : World) (hW : Below w.heap.size w W) => RBytes_in (h.a.keep hW)
  have HRS := Lib.hid fun (W : World) (hW : Below w.heap.size w W) => RSize_in (h.a.keep hW)
  have h2 := h.a.bytes_le
  have h3 : size ≤ sl.a.bytes size := by unfold Rg.bytes; exact Nat.le_mul_of_pos_left _ (by have := h.two; omega)
  unfold Sl.bytes
  obtain ⟨a, ha⟩ : ∃ a, sl.a.bytes size = a := ⟨_, rfl⟩
  rw [ha] at HRB h2 h3 ⊢
  have hab : (a : Int) - (size : Int) = ((a - size : Nat) : Int) := by omega
  have ha4 : (a : Int) ≤ 268435456 := by omega
  have hwr : IntKind.i64.wrap ((a - size : Nat) : Int) = ((a - size : Nat) : Int) := IntWalk.i64_in _ (by omega)
  clear h ha h2
  go_enter Tryz.func91, Tryz.ntmps91
  go_wp2_with fail
  refine (Sthere_in s ra w x0).mono ?_
  rintro e w1 ⟨rfl, hw1⟩
  rw [hw1]
  clear hw1 w1
  go_wp2_with fail
  refine wp_region_held_drew (S := (fun w' => w'.cell? ⟨s, 0, none⟩ = some (.pointer (some ⟨ra, 0, none⟩)))) (by kernel_rfl) (by exact x0) (fun hHeld => ?_)
  refine tky 0 (some 6) hHeld ?_
  try simp only [Act.put, List.setIfInBounds_toArray, List.set_cons_zero, List.set_cons_succ]
  refine tky 1 (some 7) hHeld ?_
  try simp only [Act.put, List.setIfInBounds_toArray, List.set_cons_zero, List.set_cons_succ]
  refine tky 2 (some 8) hHeld ?_
  try simp only [Act.put, List.setIfInBounds_toArray, List.set_cons_zero, List.set_cons_succ]
  refine tky 3 (some 9) hHeld ?_
  try simp only [Act.put, List.setIfInBounds_toArray, List.set_cons_zero, List.set_cons_succ]
  refine tky 4 (some 10) hHeld ?_
  try simp only [Act.put, List.setIfInBounds_toArray, List.set_cons_zero, List.set_cons_succ]
  refine tky 5 (some 11) hHeld ?_
  try simp only [Act.put, List.setIfInBounds_toArray, List.set_cons_zero, List.set_cons_succ]
  refine tky 7 (some 13) hHeld ?_
  try simp only [Act.put, List.setIfInBounds_toArray, List.set_cons_zero, List.set_cons_succ]
  refine tky 8 (some 14) hHeld ?_
  try simp only [Act.put, List.setIfInBounds_toArray, List.set_cons_zero, List.set_cons_succ]
  refine tky 9 (some 15) hHeld ?_
  try simp only [Act.put, List.setIfInBounds_toArray, List.set_cons_zero, List.set_cons_succ]
  refine tky 10 (some 16) hHeld ?_
  try simp only [Act.put, List.setIfInBounds_toArray, List.set_cons_zero, List.set_cons_succ]
  refine tky 11 (some 17) hHeld ?_
  try simp only [Act.put, List.setIfInBounds_toArray, List.set_cons_zero, List.set_cons_succ]
  refine tky 12 (some 18) hHeld ?_
  try simp only [Act.put, List.setIfInBounds_toArray, List.set_cons_zero, List.set_cons_succ]
  refine wpAnyH_ready (rs := [6]) (by kernel_rfl) (by simp) ?_
  refine AllReadyH.cons rfl (fun K hK => ?_) AllReadyH.nil
  go_simp
  refine (HRB.out _ (ext_drew (Below.refl _ _))).mono ?_
  rintro e w2 ⟨rfl, hw2⟩
  have hw2' : Below w.heap.size w w2 := ext_trans (ext_drew (Below.refl _ _)) hw2
  have q4 : w2.cell? ⟨s, 0, none⟩ = some (.pointer (some ⟨ra, 0, none⟩)) := (hw2'.cell (p := ⟨s, 0, none⟩) (World.block_lt_of_cell? _ _ x0)).trans x0
  have HW2 := Lib.hid hw2'
  clear hw2 hw2'
  go_wp2_with fail
  refine hK.out _ _ (by exact q4) (fun hHeld6 => ?_)
  clear hK K
  try simp only [Act.put, List.setIfInBounds_toArray, List.set_cons_zero, List.set_cons_succ]
  refine wpAnyH_ready (rs := [13]) (by kernel_rfl) (by simp) ?_
  refine AllReadyH.cons rfl (fun K hK => ?_) AllReadyH.nil
  go_simp
  refine (HRS.out _ HW2.out).mono ?_
  rintro e w3 ⟨rfl, hw3⟩
  rw [hw3]
  clear hw3 w3
  go_wp2_with fail
  refine hK.out _ _ (by exact q4) (fun hHeld13 => ?_)
  clear hK K
  try simp only [Act.put, List.setIfInBounds_toArray, List.set_cons_zero, List.set_cons_succ]
  refine tky 14 (some 20) hHeld13 ?_
  try simp only [Act.put, List.setIfInBounds_toArray, List.set_cons_zero, List.set_cons_succ]
  refine tky 15 (some 2) hHeld13 ?_
  try simp only [Act.put, List.setIfInBounds_toArray, List.set_cons_zero, List.set_cons_succ]
  refine wpAnyH_done (by kernel_rfl) ?_ _
  go_wp2_with fail
  go_ret
  exact ⟨rfl, HW2.out⟩
end Go.Proofs.YtkmpchffflemcaaGreatDoor.En
end

/- Layer 11: slots: New. -/
section
set_option linter.unusedVariables false
set_option linter.unusedSimpArgs false
namespace Go.Proofs.YtkmpchffflemcaaGreatDoor.En
open Go.RowKit

def SnOut (ra rb p : Nat) (sl : Sl) (size : Nat) (w : World) (e : Ending) (w' : World) : Prop := ∃ s, e = .returned (.tuple #[.pointer (some ⟨s, 0, none⟩), .int .i64 0]) ∧ w.heap.size ≤ s ∧ SlAt w' s ra rb p sl size ∧ Below w.heap.size w w'
set_option maxRecDepth 100000 in
set_option maxHeartbeats 4000000 in
theorem SNew_in {w : World} {ra rb p : Nat} {sl : Sl} {size : Nat} (ha : RgAt w ra p sl.a size) (hb : RgAt w rb p sl.b size) (heq : sl.b.count = sl.a.count) (htwo : 2 ≤ sl.a.count) :
    Calls Tryz.prog 35 #[.pointer (some ⟨ra, 0, none⟩), .pointer (some ⟨rb, 0, none⟩)] w (SnOut ra rb p sl size w) := by
  have hby := ha.bytes_le
  have hsz := ha.size
  have h2 : 2 * size ≤ sl.a.bytes size := by unfold Rg.bytes; exact Nat.mul_le_mul_right _ htwo
  have hbb : sl.b.bytes size = sl.a.bytes size := by unfold Rg.bytes; rw [heq]
  have HA := Lib.hid fun (W : World) (hW : Below w.heap.size w W) => RBytes_in (ha.keep hW)
  have HB := Lib.hid fun (W : World) (hW : Below w.heap.size w W) => RBytes_in (hb.keep hW)
  have HAS := Lib.hid fun (W : World) (hW : Below w.heap.size w W) => RSize_in (ha.keep hW)
  have HBS := Lib.hid fun (W : World) (hW : Below w.heap.size w W) => RSize_in (hb.keep hW)
  rw [hbb] at HB
  obtain ⟨B, hB⟩ : ∃ B, sl.a.bytes size = B := ⟨_, rfl⟩
  rw [hB] at HA HB hby h2
  have hq : ((B : Int) == 0) = false := by rw [beq_eq_false_iff_ne]; omega
  have hq2 : (B == 0) = false := by rw [beq_eq_false_iff_ne]; omega
  have hs4 : (size : Int) ≤ 4096 := by omega
  have hn2 : ¬ (B : Int) < 2 * (size : Int) := by omega
  have HRA := Lib.hid ha; have HRB := Lib.hid hb; have HEQ := Lib.hid heq; have HTW := Lib.hid htwo
  clear ha hb heq htwo hby hsz h2 hbb hB
  go_enter Tryz.func35, Tryz.ntmps35
  go_wp2_with fail
  refine (HA.out w (Below.refl _ _)).mono ?_
  rintro e w1 ⟨rfl, hb1⟩
  have HW1 := Lib.hid hb1
  clear hb1
  go_wp2_with fail
  refine (HB.out w1 HW1.out).mono ?_
  rintro e w2 ⟨rfl, hb2⟩
  have HW2 := Lib.hid (show Below w.heap.size w w2 from ext_trans HW1.out hb2)
  clear hb2
  go_wp2_with fail
  refine (HA.out w2 HW2.out).mono ?_
  rintro e w3 ⟨rfl, hb3⟩
  have HW3 := Lib.hid (show Below w.heap.size w w3 from ext_trans HW2.out hb3)
  clear hb3
  go_wp2_with fail
  refine (HB.out w3 HW3.out).mono ?_
  rintro e w4 ⟨rfl, hb4⟩
  have HW4 := Lib.hid (show Below w.heap.size w w4 from ext_trans HW3.out hb4)
  clear hb4
  go_wp2_with fail
  refine (HAS.out w4 HW4.out).mono ?_
  rintro e w5 ⟨rfl, hw5⟩
  rw [hw5]
  clear hw5 w5
  go_wp2_with fail
  refine (HBS.out w4 HW4.out).mono ?_
  rintro e w5 ⟨rfl, hw5⟩
  rw [hw5]
  clear hw5 w5
  go_wp2_with fail
  refine (HA.out w4 HW4.out).mono ?_
  rintro e w5 ⟨rfl, hb5⟩
  have HW5 := Lib.hid (show Below w.heap.size w w5 from ext_trans HW4.out hb5)
  clear hb5
  go_wp2_with fail
  refine (HAS.out w5 HW5.out).mono ?_
  rintro e w6 ⟨rfl, hw6⟩
  rw [hw6]
  clear hw6 w6
  go_wp2_with fail
  go_ret2
  obtain ⟨wf, hwf⟩ : ∃ wf, w5.alloc (.cells #[.pointer (some ⟨ra, 0, none⟩), .pointer (some ⟨rb, 0, none⟩)] 181) = wf := ⟨_, rfl⟩
  rw [hwf]
  have hbf : Below w.heap.size w wf := by rw [← hwf]; exact ext_alloc HW5.out _
  have hof : Arr wf w5.heap.size 181 #[.pointer (some ⟨ra, 0, none⟩), .pointer (some ⟨rb, 0, none⟩)] := by rw [← hwf]; exact Arr.fresh w5 _ _
  exact ⟨w5.heap.size, rfl, HW5.out.size, ⟨hof, HRA.out.keep hbf, HRB.out.keep hbf, HEQ.out, HTW.out⟩, hbf⟩
end Go.Proofs.YtkmpchffflemcaaGreatDoor.En
end
