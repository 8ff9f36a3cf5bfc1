/- Packed: Oct, Oct2, Oct3, EnPlain, Disk, Disk2, Kit17, Disk3, Disk4. -/
import Derived.Test.YtbnkanehjnepbaaGreatDoorPk4
import Derived.Test.YtbnkanehjnepbaaGreatDoorProg
import Derived.ArgAppend
import Derived.OwnWalk
import Derived.WalkSmall
import Derived.Laws.BitsAllLaws
import Derived.StillTailTactics
import Derived.WalkArith
import Derived.WideKeyEntry
import Derived.Test.YtbnkanehjnepbaaGreatDoorPk1
set_option linter.unusedVariables false
set_option linter.unusedSimpArgs false
/- Layer 1: octets: a reader takes numbers off bytes. -/
section
set_option linter.unusedVariables false
set_option linter.unusedSimpArgs false
namespace Go.Proofs.YtbnkanehjnepbaaGreatDoor.Oc
open Go.RowKit

/-- a slice's bytes, wherever they lie -/
def Bs (w : World) (A : Option Addr) (bs : List UInt8) : Prop := bs ≠ [] → ∃ g off, A = some ⟨g, off, none⟩ ∧ g < w.heap.size ∧ ∀ i u, (bytesV bs)[i]? = some u → w.cell? ⟨g, off + i, none⟩ = some u
theorem Bs.keep {w w' : World} {A : Option Addr} {bs : List UInt8} (h : Bs w A bs) (hb : Below w.heap.size w w') : Bs w' A bs := fun hne => by
  obtain ⟨g, off, h1, h2, h3⟩ := h hne
  exact ⟨g, off, h1, Nat.lt_of_lt_of_le h2 hb.size, fun i u hu => (hb.cell (p := ⟨g, off + i, none⟩) h2).trans (h3 i u hu)⟩
theorem Bs.nil (w : World) (A : Option Addr) : Bs w A [] := fun h => absurd rfl h
theorem Bs.tch {S : Nat → Prop} {w w' : World} {A : Option Addr} {bs : List UInt8} (h : Bs w A bs) (ht : Tch S w w') (hS : ∀ g off, A = some ⟨g, off, none⟩ → g < w.heap.size → ¬ S g) : Bs w' A bs := fun hne => by
  obtain ⟨g, off, h1, h2, h3⟩ := h hne
  exact ⟨g, off, h1, Nat.lt_of_lt_of_le h2 ht.size, fun i u hu => (World.cell?_of_block (a := ⟨g, off + i, none⟩) (ht.block g h2 (hS g off h1 h2))).trans (h3 i u hu)⟩
theorem Bs.read {w : World} {ad : Addr} {bs : List UInt8} (h : Bs w (some ad) bs) : ∀ j u, (bytesV bs)[j]? = some u → w.cell? (ad.add j) = some u := fun j u hu => by
  have hj := (List.getElem?_eq_some_iff.1 hu).1
  rw [bytesV_len] at hj
  obtain ⟨g, off, hA, _, hh⟩ := h (by intro e; subst e; simp at hj)
  obtain rfl := Option.some.inj hA
  rw [← hh j u hu]
  congr 1
  unfold Addr.add; split
  · subst_vars; rfl
  · rfl
theorem Bs.cell {w : World} {g off : Nat} {bs : List UInt8} (h : Bs w (some ⟨g, off, none⟩) bs) {i : Nat} (hi : i < bs.length) : w.cell? ⟨g, off + i, none⟩ = some (byteV bs[i]) := by
  obtain ⟨g', off', hA, _, hh⟩ := h (by intro e; subst e; simp at hi)
  injection hA with hA; injection hA with e1 e2
  subst e1 e2
  exact hh i _ (bytesV_get hi)
theorem Bs.take {w : World} {A : Option Addr} {bs : List UInt8} (h : Bs w A bs) (k : Nat) : Bs w A (bs.take k) := fun hne => by
  obtain ⟨g, off, h1, h2, h3⟩ := h (by rintro rfl; simp at hne)
  refine ⟨g, off, h1, h2, fun i u hu => h3 i u ?_⟩
  have hi := (List.getElem?_eq_some_iff.1 hu).1
  rw [bytesV_len, List.length_take] at hi
  rw [← hu, bytesV, bytesV, List.map_take, List.getElem?_take, if_pos (by omega)]
theorem Bs.drop {w : World} {g off : Nat} {bs : List UInt8} (h : Bs w (some ⟨g, off, none⟩) bs) (k : Nat) : Bs w (some ⟨g, off + k, none⟩) (bs.drop k) := fun hne => by
  obtain ⟨g', off', h1, h2, h3⟩ := h (by rintro rfl; simp at hne)
  injection h1 with h1; injection h1 with e1 e2
  subst e1 e2
  refine ⟨g, off + k, rfl, h2, fun i u hu => ?_⟩
  rw [Nat.add_assoc]
  refine h3 (k + i) u ?_
  rw [← hu, bytesV, bytesV, List.map_drop, List.getElem?_drop]
theorem u8_info : (Tryz.prog.info? 5).map (fun i => (i.zero, i.size, i.bytes)) = some (some (.int .u8 0), 1, 1) := by kernel_rfl

/-- what is left to be read, and the error -/
structure RsAt (w : World) (q : Nat) (bs : List UInt8) (e : Int) : Prop where
  ex : ∃ A c, Arr w q 269 #[.slice A bs.length c, .int .i64 e] ∧ Bs w A bs ∧ bs.length ≤ c ∧ (∀ g off, A = some ⟨g, off, none⟩ → g ≠ q)
theorem RsAt.keep {w w' : World} {q : Nat} {bs : List UInt8} {e : Int} (h : RsAt w q bs e) (hb : Below w.heap.size w w') : RsAt w' q bs e := by
  obtain ⟨A, c, h1, h2, h3⟩ := h.ex
  exact ⟨A, c, h1.keep hb, h2.keep hb, h3⟩
def okA (A : Option Addr) : Prop := ∀ ad, A = some ad → ∃ g off, ad = ⟨g, off, none⟩
theorem okA_none : okA none := fun ad e => by cases e
theorem okA_some (g off : Nat) : okA (some ⟨g, off, none⟩) := fun ad e => ⟨g, off, by injection e with e; exact e.symm⟩
/-- so many bytes are taken: they, what is left, the error -/
def tk (bs : List UInt8) (e : Int) (k : Nat) : List UInt8 × List UInt8 × Int :=
  if e ≠ 0 then ([], bs, e) else if bs.length < k then ([], [], 4) else (bs.take k, bs.drop k, 0)
theorem tk_err {bs : List UInt8} {e : Int} {k : Nat} (h : e ≠ 0) : tk bs e k = ([], bs, e) := if_pos h
theorem tk_short {bs : List UInt8} {k : Nat} (h : bs.length < k) : tk bs 0 k = ([], [], 4) := by rw [tk, if_neg (by simp), if_pos h]
theorem tk_ok {bs : List UInt8} {k : Nat} (h : k ≤ bs.length) : tk bs 0 k = (bs.take k, bs.drop k, 0) := by rw [tk, if_neg (by simp), if_neg (by omega)]
theorem tk_len (bs : List UInt8) (e : Int) (k : Nat) : (tk bs e k).1.length ≤ k := by
  unfold tk; split
  · simp
  · split
    · simp
    · simp [List.length_take]; omega
def TkOut (q : Nat) (bs : List UInt8) (e : Int) (k : Nat) (w : World) (en : Ending) (w' : World) : Prop :=
  (∃ A c, en = .returned (.slice A (tk bs e k).1.length c) ∧ Bs w' A (tk bs e k).1 ∧ okA A) ∧ RsAt w' q (tk bs e k).2.1 (tk bs e k).2.2 ∧ Tch (· = q) w w'

theorem TkOut.err {q k : Nat} {bs : List UInt8} {e : Int} {w w' : World} (he : e ≠ 0) (h : RsAt w' q bs e) (ht : Tch (· = q) w w') (c : Nat) : TkOut q bs e k w (.returned (.slice none 0 c)) w' := by
  unfold TkOut; rw [tk_err he]; exact ⟨⟨none, c, rfl, Bs.nil _ _, okA_none⟩, h, ht⟩
theorem TkOut.short {q k : Nat} {bs : List UInt8} {w w' : World} (hk : bs.length < k) (h : RsAt w' q [] 4) (ht : Tch (· = q) w w') (c : Nat) : TkOut q bs 0 k w (.returned (.slice none 0 c)) w' := by
  unfold TkOut; rw [tk_short hk]; exact ⟨⟨none, c, rfl, Bs.nil _ _, okA_none⟩, h, ht⟩
theorem TkOut.ok {q k : Nat} {bs : List UInt8} {w w' : World} (hk : k ≤ bs.length) {g off c : Nat} (hb : Bs w' (some ⟨g, off, none⟩) (bs.take k)) (h : RsAt w' q (bs.drop k) 0) (ht : Tch (· = q) w w') : TkOut q bs 0 k w (.returned (.slice (some ⟨g, off, none⟩) k c)) w' := by
  unfold TkOut; rw [tk_ok hk]; exact ⟨⟨_, c, by rw [List.length_take, Nat.min_eq_left hk], hb, okA_some g off⟩, h, ht⟩
theorem RsAt.gone (w : World) (q : Nat) (e : Int) (h : Arr w q 269 #[.slice none 0 0, .int .i64 e]) : RsAt w q [] e := ⟨none, 0, h, Bs.nil _ _, Nat.le_refl _, fun g off e => by cases e⟩

-- octets.rest.take
set_option maxRecDepth 100000 in
set_option maxHeartbeats 2000000 in
theorem take_err (q k : Nat) (bs : List UInt8) (e : Int) (w : World) (h : RsAt w q bs e) (he : e ≠ 0) : Calls Tryz.prog 204 #[.pointer (some ⟨q, 0, none⟩), .int .i64 k] w (TkOut q bs e k w) := by
  obtain ⟨A, c, h1, h2, h3, h4⟩ := h.ex
  have x0 : w.cell? ⟨q, 0, none⟩ = some (.slice A bs.length c) := h1.cell 0
  have x1 : w.cell? ⟨q, 1, none⟩ = some (.int .i64 e) := h1.cell 1
  have hb : (e == 0) = false := by simp [he]
  have HF := Lib.hid (TkOut.err (q := q) (k := k) he h (Tch.refl (· = q) w))
  clear h h1 h2 h3 h4
  go_enter Tryz.func204, Tryz.ntmps204
  go_wp2_with fail
  go_ret
  exact HF.out _
set_option maxRecDepth 100000 in
set_option maxHeartbeats 2000000 in
theorem take_short (q k : Nat) (bs : List UInt8) (w : World) (h : RsAt w q bs 0) (hk : bs.length < k) (hk2 : k ≤ 1000000) : Calls Tryz.prog 204 #[.pointer (some ⟨q, 0, none⟩), .int .i64 k] w (TkOut q bs 0 k w) := by
  obtain ⟨A, c, h1, h2, h3, h4⟩ := h.ex
  have x0 : w.cell? ⟨q, 0, none⟩ = some (.slice A bs.length c) := h1.cell 0
  have x1 : w.cell? ⟨q, 1, none⟩ = some (.int .i64 0) := h1.cell 1
  have m0 := h1.mark 0
  have m1 := h1.mark 1
  have hn : (bs.length : Int) < (k : Int) := by omega
  have hk0 : ¬ (k : Int) < 0 := by omega
  have HF := Lib.hid (TkOut.short (q := q) hk (RsAt.gone _ q 4 (by simpa using (h1.put 0 (.slice none 0 0)).put 1 (.int .i64 4))) ((Tch.at w q 0 _).at2 1 _))
  clear h h1 h2 h3 h4 hk
  go_enter Tryz.func204, Tryz.ntmps204
  go_wp2_with fail
  go_ret
  exact HF.out _
set_option maxRecDepth 100000 in
set_option maxHeartbeats 2000000 in
theorem take_ok (q k : Nat) (bs : List UInt8) (w : World) (h : RsAt w q bs 0) (hk : k ≤ bs.length) (hne : bs ≠ []) : Calls Tryz.prog 204 #[.pointer (some ⟨q, 0, none⟩), .int .i64 k] w (TkOut q bs 0 k w) := by
  obtain ⟨A, c, h1, h2, h3, h4⟩ := h.ex
  obtain ⟨g, off, rfl, hg, hh⟩ := h2 hne
  have x0 : w.cell? ⟨q, 0, none⟩ = some (.slice (some ⟨g, off, none⟩) bs.length c) := h1.cell 0
  have x1 : w.cell? ⟨q, 1, none⟩ = some (.int .i64 0) := h1.cell 1
  have m0 := h1.mark 0
  have hn : (k : Int) ≤ (bs.length : Int) := by omega
  have hc : (bs.length : Int) ≤ (c : Int) := by omega
  have hk0 : (0 : Int) ≤ (k : Int) := by omega
  have hq : g ≠ q := h4 g off rfl
  have HA := Lib.hid h1; have HB := Lib.hid h2; have HK := Lib.hid hk
  have hfin : ∀ (off' cc : Nat) (u : Value) (W : World), W = w.setCell ⟨q, 0, none⟩ u → u = .slice (some ⟨g, off', none⟩) (bs.length - k) (c - k) → (off' = off + k ∨ bs.length = k) → TkOut q bs 0 k w (.returned (.slice (some ⟨g, off, none⟩) k cc)) W := by
    rintro off' cc u W rfl rfl ho
    have ht : Tch (· = q) w (w.setCell ⟨q, 0, none⟩ (.slice (some ⟨g, off', none⟩) (bs.length - k) (c - k))) := Tch.at w q 0 _
    have hB' : ∀ {B : Option Addr} {l : List UInt8}, Bs w B l → (∀ g' o', B = some ⟨g', o', none⟩ → g' = g) → Bs (w.setCell ⟨q, 0, none⟩ (.slice (some ⟨g, off', none⟩) (bs.length - k) (c - k))) B l := fun hB hg' => hB.tch ht fun g' o' e _ e2 => hq (by rw [← hg' g' o' e]; exact e2)
    refine TkOut.ok hk (hB' (h2.take k) fun g' o' e => by injection e with e; injection e with e _; exact e.symm) ⟨some ⟨g, off', none⟩, c - k, ?_, ?_, ?_, ?_⟩ ht
    · rw [List.length_drop]; simpa using h1.put 0 (.slice (some ⟨g, off', none⟩) (bs.length - k) (c - k))
    · rcases ho with rfl | ho
      · exact hB' (h2.drop k) fun g' o' e => by injection e with e; injection e with e _; exact e.symm
      · rw [List.drop_of_length_le (by omega)]; exact Bs.nil _ _
    · rw [List.length_drop]; omega
    · intro g' o' e; injection e with e; injection e with e _; rw [← e]; exact hq
  have HF := Lib.hid hfin
  clear h h1 h2 h4 hh hk hfin
  go_enter Tryz.func204, Tryz.ntmps204
  go_wp2_with fail
  · go_ret
    exact HF.out off _ _ _ rfl (by rw [h, Nat.sub_self]) (.inr (by have := HK.out; omega))
  · go_ret
    exact HF.out _ _ _ _ rfl rfl (.inl rfl)

theorem take_in (q k : Nat) (bs : List UInt8) (e : Int) (w : World) (h : RsAt w q bs e) (hk : 1 ≤ k ∧ k ≤ 1000000) : Calls Tryz.prog 204 #[.pointer (some ⟨q, 0, none⟩), .int .i64 k] w (TkOut q bs e k w) := by
  by_cases he : e = 0
  · subst he
    rcases Nat.lt_or_ge bs.length k with hl | hl
    · exact take_short q k bs w h hl hk.2
    · exact take_ok q k bs w h hl (by rintro rfl; simp at hl; omega)
  · exact take_err q k bs e w h he
theorem wrap_byte64 (b : UInt8) : IntKind.u64.wrap (b.toNat : Int) = (b.toNat : Int) := by have : b.toNat < 256 := b.toNat_lt; rw [IntKind.wrap_u64]; omega
/-- numbers of so many bytes -/
theorem val_bound {l : List UInt8} {k : Nat} (h : l.length ≤ k) : val l < 256 ^ k := Nat.lt_of_lt_of_le (val_lt l) (Nat.pow_le_pow_right (by decide) h)
theorem val_take_succ {l : List UInt8} {i : Nat} (h : i < l.length) : val (l.take (i + 1)) = val (l.take i) + l[i].toNat * 256 ^ i := by
  rw [List.take_add_one, List.getElem?_eq_getElem h, Option.toList_some, val_snoc, List.length_take, Nat.min_eq_left (by omega)]
def NmOut (q : Nat) (bs : List UInt8) (e : Int) (k : Nat) (w : World) (en : Ending) (w' : World) : Prop :=
  en = .returned (.int .u64 (val (tk bs e k).1 : Nat)) ∧ RsAt w' q (tk bs e k).2.1 (tk bs e k).2.2 ∧ Tch (· = q) w w'
-- octets.rest.number
set_option maxRecDepth 100000 in
set_option maxHeartbeats 2000000 in
theorem number_in (q k : Nat) (bs : List UInt8) (e : Int) (w : World) (h : RsAt w q bs e) (hk : 1 ≤ k ∧ k ≤ 8) : Calls Tryz.prog 203 #[.pointer (some ⟨q, 0, none⟩), .int .i64 k] w (NmOut q bs e k w) := by
  have HH := Lib.hid (take_in q k bs e w h ⟨hk.1, by omega⟩)
  have HK := Lib.hid hk
  clear h hk
  go_enter Tryz.func203, Tryz.ntmps203
  go_wp2_with fail
  refine HH.out.mono ?_
  rintro en w1 ⟨⟨A, c, rfl, hb, _⟩, hr, ht⟩
  obtain ⟨l, hl⟩ : ∃ l, (tk bs e k).1 = l := ⟨_, rfl⟩
  have hlk : l.length ≤ 8 := by rw [← hl]; exact Nat.le_trans (tk_len bs e k) HK.out.2
  have hfin : NmOut q bs e k w (.returned (.int .u64 (val l : Nat))) w1 := ⟨by rw [hl], hr, ht⟩
  rw [hl] at hb ⊢
  have HB := Lib.hid hb; have HF := Lib.hid hfin
  have hlk' : (l.length : Int) ≤ 8 := by omega
  clear hb hr ht hfin hl HH HK
  go_wp2_with fail
  go_loopw [5, 12] (fun n i wr => ∃ j : Nat, j ≤ l.length ∧ i = .int .i64 j ∧ n = .int .u64 (val (l.take j) : Nat) ∧ wr = w1) (fun _ i _ => (l.length - intOf i).toNat)
  case atStart => exact ⟨0, by omega, rfl, rfl, rfl⟩
  case round =>
    obtain ⟨j, hj, rfl, rfl, hw⟩ := hrel
    rw [hw]
    clear hw
    by_cases h : j < l.length
    · have h' : (j : Int) < (l.length : Int) := by omega
      have hj0 : (0 : Int) ≤ (j : Int) := by omega
      obtain ⟨g, off, hA, _, _⟩ := HB.out (by rintro rfl; simp at h)
      subst hA
      have x0 : w1.cell? ⟨g, off + j, none⟩ = some (byteV l[j]) := HB.out.cell h
      have hv := val_take_succ h
      have ho := or_byte (val (l.take j)) l[j].toNat j (by have := val_lt (l.take j); rwa [List.length_take, Nat.min_eq_left (by omega)] at this) l[j].toNat_lt (by omega)
      rw [← hv] at ho
      unfold byteV at x0
      have HO := Lib.hid ho
      clear ho hv
      go_wp2_with fail
      go_roundw
      case rel => exact ⟨j + 1, by omega, by go_num, by rw [wrap_byte64, HO.out], by first | rfl | trivial⟩
      case measure => simp [intOf]; omega
    · have h' : ¬ (j : Int) < (l.length : Int) := by omega
      have hjl : j = l.length := by omega
      subst hjl
      go_wp2_with fail
      go_ret
      exact HF.out

/-- a reader -/
structure RdAt (w : World) (p q : Nat) (bs : List UInt8) (e : Int) : Prop where
  own : Arr w p 271 #[.pointer (some ⟨q, 0, none⟩)]
  rest : RsAt w q bs e
theorem RdAt.ne {w : World} {p q : Nat} {bs : List UInt8} {e : Int} (h : RdAt w p q bs e) : p ≠ q := by
  rintro rfl
  obtain ⟨A, c, h1, _⟩ := h.rest.ex
  have h2 := h.own
  rw [Arr] at h1 h2
  rw [h1] at h2
  injection h2 with h2
  injection h2 with h2
  simp at h2
theorem RdAt.keep {w w' : World} {p q : Nat} {bs : List UInt8} {e : Int} (h : RdAt w p q bs e) (hb : Below w.heap.size w w') : RdAt w' p q bs e := ⟨h.own.keep hb, h.rest.keep hb⟩
theorem RdAt.next {w w' : World} {p q : Nat} {bs bs' : List UInt8} {e e' : Int} (h : RdAt w p q bs e) (hr : RsAt w' q bs' e') (ht : Tch (· = q) w w') : RdAt w' p q bs' e' := ⟨ht.arr h.own h.ne, hr⟩
set_option maxRecDepth 100000 in
set_option maxHeartbeats 1000000 in
theorem made_in (p q : Nat) (w : World) (h : w.cell? ⟨p, 0, none⟩ = some (.pointer (some ⟨q, 0, none⟩))) : Calls Tryz.prog 177 #[.pointer (some ⟨p, 0, none⟩)] w fun e w' => e = .returned (.bool true) ∧ w' = w := by
  go_enter Tryz.func177, Tryz.ntmps177
  go_wp2_with fail
  go_wp2_with fail
  go_ret
  exact ⟨rfl, rfl⟩
-- octets.Reader.next
set_option maxRecDepth 100000 in
set_option maxHeartbeats 1000000 in
theorem next_in (p q k : Nat) (bs : List UInt8) (e : Int) (w : World) (h : RdAt w p q bs e) (hk : 1 ≤ k ∧ k ≤ 8) : Calls Tryz.prog 153 #[.pointer (some ⟨p, 0, none⟩), .int .i64 k] w (NmOut q bs e k w) := by
  have x0 : w.cell? ⟨p, 0, none⟩ = some (.pointer (some ⟨q, 0, none⟩)) := h.own.cell 0
  have HN := Lib.hid (number_in q k bs e w h.rest hk)
  clear h hk
  go_enter Tryz.func153, Tryz.ntmps153
  go_wp2_with fail
  refine (made_in p q w x0).mono ?_
  rintro en w1 ⟨rfl, hw⟩
  rw [hw]
  clear hw w1
  go_wp2_with fail
  refine HN.out.mono ?_
  rintro en w1 h1
  obtain ⟨rfl, h2, h3⟩ := h1
  have HF := Lib.hid (show NmOut q bs e k w _ w1 from ⟨rfl, h2, h3⟩)
  clear h2 h3
  go_wp2_with fail
  go_ret
  exact HF.out

end Go.Proofs.YtbnkanehjnepbaaGreatDoor.Oc
end

/- Layer 1: octets: bytes appended, cloned; a reader's numbers. -/
section
set_option linter.unusedVariables false
set_option linter.unusedSimpArgs false
namespace Go.Proofs.YtbnkanehjnepbaaGreatDoor.Oc
open Go.RowKit

theorem _root_.Go.Proofs.YtbnkanehjnepbaaGreatDoor.Blk.bs {w : World} {g : Nat} {bs : List UInt8} (h : Blk w 5 g bs) : Bs w (some ⟨g, 0, none⟩) bs := fun _ => ⟨g, 0, rfl, h.lt, fun i u hu => by
  obtain ⟨cur, h1, h2⟩ := h
  rw [Nat.zero_add, show w.cell? ⟨g, i, none⟩ = cur[i]? from by simp [World.cell?, h1]]
  exact h2 i u hu⟩
theorem own_blk {w : World} {base g cap n : Nat} {bs : List UInt8} (h : w.ownsRow base 5 1 (.slice (some ⟨g, 0, none⟩) n cap) n (bytesV bs)) (hn : bs.length = n) : Blk w 5 g bs ∧ n ≤ cap ∧ base ≤ g ∧ n ≤ maxLen := by
  rcases h.2 with ⟨h0, _⟩ | ⟨g', cap', cur, hv, hb, hh, h1, h2, h3, h4⟩
  · cases h0
  · injection hv with e1 _ e2
    injection e1 with e1; injection e1 with e1
    subst e1 e2
    refine ⟨⟨cur, hh, fun j u hu => ?_⟩, h1, hb, Nat.le_trans h1 h2⟩
    have hj := (List.getElem?_eq_some_iff.1 hu).1
    rw [bytesV_len] at hj
    rw [← hu, ← h4, List.getElem?_take, if_pos (by omega), Array.getElem?_toList]
theorem nil_no (ad : Addr) (n c : Nat) (W : World) : (binOp BinOp.eql 51 (.slice (some ad) n c) (.slice none 0 0)).run Tryz.prog W = .ok (.bool false) W := by kernel_rfl
theorem nil_yes (n c : Nat) (W : World) : (binOp BinOp.eql 51 (.slice none n c) (.slice none 0 0)).run Tryz.prog W = .ok (.bool true) W := by kernel_rfl
/-- bytes behind bytes, where there is no room -/
theorem wp_app1 (w : World) {o : Oper} {a : Act} {K : Act → World → Prop} {Q : Exit → Act → World → Prop} (s x : Operand)
    (hop : o.op = Op.call { callee := Callee.builtin Builtin.append, args := #[s, x], argTypes := #[51, 51] }) (bs cs : List UInt8) (A : Option Addr) (n c : Nat) (hs : a.eval s = .slice A n c) (hn : n = bs.length) (hA : A = none → n = 0 ∧ c = 0) (hB : Bs w A bs)
    (ad : Addr) (m cp : Nat) (hx : a.eval x = .slice (some ad) m cp) (hm : m = cs.length) (hC : Bs w (some ad) cs) (hfull : c < n + m) (hl : n + m ≤ 70368744177664)
    (hK : ∀ g cp' w', w.heap.size ≤ g → Blk w' 5 g (bs ++ cs) → Below w.heap.size w w' → n + m ≤ cp' → K (a.put o.dst (.slice (some ⟨g, 0, none⟩) (n + m) cp')) w') : Oper.wp Tryz.prog o a w K Q := by
  obtain ⟨i0, hi, hz0, hz1, hz2⟩ := info_parts u8_info
  subst hn hm
  have b1 : bs.length + cs.length ≤ maxLen := by unfold maxLen; omega
  have b2 : (bs.length + cs.length) * 1 ≤ 140737488355328 := by omega
  have hnews : (bytesV cs).length = cs.length * 1 := by rw [bytesV_len, Nat.mul_one]
  have hgo : ∃ v' w', (Builtin.append_ #[51, 51] o.type #[.slice A bs.length c, .slice (some ad) cs.length cp]).run Tryz.prog w = .ok v' w' ∧ w'.ownsRow w.heap.size 5 1 v' (bs.length + cs.length) (bytesV bs ++ bytesV cs) ∧ w.grownBy w' none := by
    cases A with
    | some b =>
      obtain ⟨v', w', hrun, r1, r2⟩ := run_append_arg_grows (P := Tryz.prog) w 51 o.type 5 i0 (.int .u8 0) 1 1 Tryz.underlying51 hi hz0 hz1 hz2 rfl (by decide) b bs.length c (bytesV bs) (by rw [bytesV_len, Nat.mul_one]) hB.read ad cs.length cp (bytesV cs) hnews hC.read hfull b1 b2
      exact ⟨v', w', hrun, r1, r2⟩
    | none =>
      obtain ⟨h0, rfl⟩ := hA rfl
      obtain rfl := List.eq_nil_of_length_eq_zero h0
      obtain ⟨v', w', hrun, r1, r2, _⟩ := run_append_own (P := Tryz.prog) w w.heap.size 51 o.type 5 i0 (.int .u8 0) 1 1 Tryz.underlying51 hi hz0 hz1 hz2 rfl (by decide) (.slice none 0 0) 0 [] (World.ownsRow_nil w _ 5 1) ad cs.length cp (bytesV cs) hnews hC.read (bytesV_one cs) (by simpa using b1) (by simpa using b2) (Nat.le_refl _)
      exact ⟨v', w', hrun, r1, r2⟩
  obtain ⟨v', w', hrun, ho, hgr⟩ := hgo
  have hne : v' ≠ .slice none 0 0 := by
    rintro rfl
    rcases ho.2 with ⟨_, h0⟩ | ⟨_, _, _, h0, _⟩
    · omega
    · cases h0
  obtain ⟨g, cap, rfl⟩ := own_forms ho hne
  rw [← bytesV_app] at ho
  obtain ⟨h1, h2, h3, _⟩ := own_blk ho (by rw [List.length_append])
  unfold Oper.wp execOp
  simp only [hop, resolve, invoke, builtin, Sem.run_bind, Sem.run_pure, Result.andThen_ok, List.map_toArray, List.map_cons, List.map_nil, hs, hx, hrun]
  exact hK g cap w' h3 h1 (Below.grown (Below.refl _ _) hgr (Nat.le_refl _) (by simp)) h2
theorem wp_app (w : World) {ops : Array Oper} {rest : List Oper} {o : Oper} {a : Act} {Q : Exit → Act → World → Prop} (hg : o.guard = none) (s x : Operand)
    (hop : o.op = Op.call { callee := Callee.builtin Builtin.append, args := #[s, x], argTypes := #[51, 51] }) (bs cs : List UInt8) (A : Option Addr) (n c : Nat) (hs : a.eval s = .slice A n c) (hn : n = bs.length) (hA : A = none → n = 0 ∧ c = 0) (hB : Bs w A bs)
    (ad : Addr) (m cp : Nat) (hx : a.eval x = .slice (some ad) m cp) (hm : m = cs.length) (hC : Bs w (some ad) cs) (hfull : c < n + m) (hl : n + m ≤ 70368744177664)
    (hK : ∀ g cp' w', w.heap.size ≤ g → Blk w' 5 g (bs ++ cs) → Below w.heap.size w w' → n + m ≤ cp' → wpList Tryz.prog ops Q rest (a.put o.dst (.slice (some ⟨g, 0, none⟩) (n + m) cp')) w') : wpList Tryz.prog ops Q (o :: rest) a w :=
  wpList_plain hg fun _ hKK => wp_app1 w s x hop bs cs A n c hs hn hA hB ad m cp hx hm hC hfull hl fun g cp' w' a b c d => hKK _ _ (hK g cp' w' a b c d)
def ClOut (bs : List UInt8) (w : World) (e : Ending) (w' : World) : Prop :=
  ∃ A c, e = .returned (.slice A bs.length c) ∧ (bs ≠ [] → ∃ g, A = some ⟨g, 0, none⟩ ∧ w.heap.size ≤ g ∧ Blk w' 5 g bs) ∧ bs.length ≤ c ∧ (∀ g off, A = some ⟨g, off, none⟩ → w.heap.size ≤ g ∧ g < w'.heap.size) ∧ (A = none → c = 0) ∧ Below w.heap.size w w'
theorem ClOut.bs {bs : List UInt8} {w w' : World} {A : Option Addr} (h : bs ≠ [] → ∃ g, A = some ⟨g, 0, none⟩ ∧ w.heap.size ≤ g ∧ Blk w' 5 g bs) : Bs w' A bs := fun hne => by
  obtain ⟨g, rfl, _, hb⟩ := h hne
  exact hb.bs hne
-- slices.Clone
set_option maxRecDepth 100000 in
set_option maxHeartbeats 2000000 in
theorem Clone_some (bs : List UInt8) (g off c : Nat) (w : World) (hB : Bs w (some ⟨g, off, none⟩) bs) (hne : bs ≠ []) (hl : bs.length ≤ 70368744177664) : Calls Tryz.prog 104 #[.slice (some ⟨g, off, none⟩) bs.length c] w (ClOut bs w) := by
  have hpos : 0 < bs.length := List.length_pos_iff.2 hne
  have HB := Lib.hid hB; have HN := Lib.hid hne
  have hq := nil_no ⟨g, off, none⟩ bs.length c
  clear hB hne
  go_enter Tryz.func104, Tryz.ntmps104
  go_wp2_with (refine wp_app _ rfl _ _ rfl [] bs (some ⟨w.heap.size, 0, none⟩) 0 0 rfl rfl (by simp) (Bs.nil _ _) ⟨g, off, none⟩ bs.length c rfl rfl (HB.out.keep (ext_alloc (Below.refl _ _) _)) (by omega) (by omega) ?_; intro g5 c5 w5 hg5 hb5 hx5 hc5; have HG5 := Lib.hid hg5; have HB5 := Lib.hid hb5; have HX5 := Lib.hid hx5; have HC5 := Lib.hid hc5; clear hg5 hb5 hx5 hc5)
  go_ret
  have h5 := HG5.out
  simp at h5
  exact ⟨some ⟨g5, 0, none⟩, c5, by simp, fun _ => ⟨g5, rfl, by omega, HB5.out⟩, by simpa using HC5.out, (fun g' o' e => by injection e with e; injection e with e; have := HB5.out.lt; omega), (fun e => by cases e), ext_trans (ext_alloc (Below.refl _ _) _) HX5.out⟩
set_option maxRecDepth 100000 in
set_option maxHeartbeats 2000000 in
theorem Clone_none (c : Nat) (w : World) : Calls Tryz.prog 104 #[.slice none 0 c] w (ClOut [] w) := by
  have hq := nil_yes 0 c
  go_enter Tryz.func104, Tryz.ntmps104
  go_wp2_with fail
  go_ret
  exact ⟨none, 0, rfl, fun h => absurd rfl h, Nat.le_refl _, (fun g' o' e => by cases e), fun _ => rfl, Below.refl _ _⟩
set_option maxRecDepth 100000 in
set_option maxHeartbeats 2000000 in
theorem Clone_empty (g off c : Nat) (w : World) : Calls Tryz.prog 104 #[.slice (some ⟨g, off, none⟩) 0 c] w (ClOut [] w) := by
  have hq := nil_no ⟨g, off, none⟩ 0 c
  go_enter Tryz.func104, Tryz.ntmps104
  go_wp2_with fail
  go_ret
  exact ⟨some ⟨w.heap.size, 0, none⟩, 0, rfl, fun h => absurd rfl h, Nat.le_refl _, (fun g' o' e => by injection e with e; injection e with e; subst e; exact ⟨Nat.le_refl _, by simp⟩), (fun e => by cases e), ext_alloc (Below.refl _ _) _⟩
theorem Clone_in (bs : List UInt8) (A : Option Addr) (c : Nat) (w : World) (hB : Bs w A bs) (hA : okA A) (hl : bs.length ≤ 70368744177664) : Calls Tryz.prog 104 #[.slice A bs.length c] w (ClOut bs w) := by
  by_cases hne : bs = []
  · subst hne
    cases A with
    | none => exact Clone_none c w
    | some ad => obtain ⟨g, off, rfl⟩ := hA ad rfl; exact Clone_empty g off c w
  · obtain ⟨g, off, rfl, _⟩ := hB hne
    exact Clone_some bs g off c w hB hne hl

-- octets.Of
def OfOut (bs : List UInt8) (w : World) (e : Ending) (w' : World) : Prop := ∃ p q, e = .returned (.pointer (some ⟨p, 0, none⟩)) ∧ RdAt w' p q bs 0 ∧ w.heap.size ≤ p ∧ w.heap.size ≤ q ∧ Below w.heap.size w w'
set_option maxRecDepth 100000 in
set_option maxHeartbeats 2000000 in
theorem Of_in (bs : List UInt8) (A : Option Addr) (c : Nat) (w : World) (hB : Bs w A bs) (hA : okA A) (hl : bs.length ≤ 70368744177664) : Calls Tryz.prog 87 #[.slice A bs.length c] w (OfOut bs w) := by
  have HC := Lib.hid (Clone_in bs A c w hB hA hl)
  clear hB hA
  go_enter Tryz.func87, Tryz.ntmps87
  go_wp2_with fail
  refine HC.out.mono ?_
  rintro en w1 ⟨B, d, rfl, h1, h2, h3, h4, h5⟩
  have HB := Lib.hid (ClOut.bs (w := w) h1); have HL := Lib.hid h2; have H3 := Lib.hid h3; have H5 := Lib.hid h5
  clear h1 h2 h3 h4 h5 HC
  go_wp2_with fail
  go_ret
  have hz := H5.out.size
  have hb : Below w1.heap.size w1 ((w1.alloc (.cells #[.slice B bs.length d, .int .i64 0] 269)).alloc (.cells #[.pointer (some ⟨w1.heap.size, 0, none⟩)] 271)) := ext_alloc (ext_alloc (Below.refl _ _) _) _
  exact ⟨w1.heap.size + 1, w1.heap.size, by simp, ⟨Arr.new (by simp), B, d, (Arr.fresh w1 _ _).alloc _, HB.out.keep hb, HL.out, fun g off e => by have := (H3.out g off e).2; omega⟩, by omega, hz, ext_trans H5.out hb⟩

def RdOut (p q : Nat) (bs : List UInt8) (e : Int) (k : Nat) (kd : IntKind) (w : World) (en : Ending) (w' : World) : Prop :=
  en = .returned (.int kd (val (tk bs e k).1 : Nat)) ∧ RdAt w' p q (tk bs e k).2.1 (tk bs e k).2.2 ∧ Tch (· = q) w w'
-- octets.Reader.Two
set_option maxRecDepth 100000 in
set_option maxHeartbeats 1000000 in
theorem RTwo_in (p q : Nat) (bs : List UInt8) (e : Int) (w : World) (h : RdAt w p q bs e) : Calls Tryz.prog 90 #[.pointer (some ⟨p, 0, none⟩)] w (RdOut p q bs e 2 .u16 w) := by
  have HH := Lib.hid h
  have HN := Lib.hid (next_in p q 2 bs e w h (by decide))
  clear h
  go_enter Tryz.func90, Tryz.ntmps90
  go_wp2_with fail
  refine HN.out.mono ?_
  rintro en w1 ⟨rfl, h2, h3⟩
  have hv := val_bound (tk_len bs e 2)
  have hw : IntKind.u16.wrap ((val (tk bs e 2).1 : Nat) : Int) = ((val (tk bs e 2).1 : Nat) : Int) := by rw [IntKind.wrap_u16]; omega
  have HF := Lib.hid (show RdOut p q bs e 2 .u16 w _ w1 from ⟨rfl, HH.out.next h2 h3, h3⟩)
  clear h2 h3 hv
  go_wp2_with fail
  go_ret
  exact HF.out
-- octets.Reader.Four
set_option maxRecDepth 100000 in
set_option maxHeartbeats 1000000 in
theorem RFour_in (p q : Nat) (bs : List UInt8) (e : Int) (w : World) (h : RdAt w p q bs e) : Calls Tryz.prog 88 #[.pointer (some ⟨p, 0, none⟩)] w (RdOut p q bs e 4 .u32 w) := by
  have HH := Lib.hid h
  have HN := Lib.hid (next_in p q 4 bs e w h (by decide))
  clear h
  go_enter Tryz.func88, Tryz.ntmps88
  go_wp2_with fail
  refine HN.out.mono ?_
  rintro en w1 ⟨rfl, h2, h3⟩
  have hv := val_bound (tk_len bs e 4)
  have hw : IntKind.u32.wrap ((val (tk bs e 4).1 : Nat) : Int) = ((val (tk bs e 4).1 : Nat) : Int) := by rw [IntKind.wrap_u32']; omega
  have HF := Lib.hid (show RdOut p q bs e 4 .u32 w _ w1 from ⟨rfl, HH.out.next h2 h3, h3⟩)
  clear h2 h3 hv
  go_wp2_with fail
  go_ret
  exact HF.out
-- octets.Reader.Eight
set_option maxRecDepth 100000 in
set_option maxHeartbeats 1000000 in
theorem REight_in (p q : Nat) (bs : List UInt8) (e : Int) (w : World) (h : RdAt w p q bs e) : Calls Tryz.prog 92 #[.pointer (some ⟨p, 0, none⟩)] w (RdOut p q bs e 8 .u64 w) := by
  have HH := Lib.hid h
  have HN := Lib.hid (next_in p q 8 bs e w h (by decide))
  clear h
  go_enter Tryz.func92, Tryz.ntmps92
  go_wp2_with fail
  refine HN.out.mono ?_
  rintro en w1 ⟨rfl, h2, h3⟩
  have HF := Lib.hid (show RdOut p q bs e 8 .u64 w _ w1 from ⟨rfl, HH.out.next h2 h3, h3⟩)
  clear h2 h3
  go_wp2_with fail
  go_ret
  exact HF.out
-- octets.Reader.Take
def RtOut (p q : Nat) (bs : List UInt8) (e : Int) (k : Nat) (w : World) (en : Ending) (w' : World) : Prop :=
  ∃ A c, en = .returned (.slice A (tk bs e k).1.length c) ∧ ((tk bs e k).1 ≠ [] → ∃ g, A = some ⟨g, 0, none⟩ ∧ w.heap.size ≤ g ∧ Blk w' 5 g (tk bs e k).1) ∧ (∀ g off, A = some ⟨g, off, none⟩ → w.heap.size ≤ g ∧ g < w'.heap.size) ∧ RdAt w' p q (tk bs e k).2.1 (tk bs e k).2.2 ∧ Tch (· = q) w w'

set_option maxRecDepth 100000 in
set_option maxHeartbeats 1000000 in
theorem RTake_in (p q k : Nat) (bs : List UInt8) (e : Int) (w : World) (h : RdAt w p q bs e) (hk : 1 ≤ k ∧ k ≤ 1000000) : Calls Tryz.prog 159 #[.pointer (some ⟨p, 0, none⟩), .int .i64 k] w (RtOut p q bs e k w) := by
  have x0 : w.cell? ⟨p, 0, none⟩ = some (.pointer (some ⟨q, 0, none⟩)) := h.own.cell 0
  have HH := Lib.hid h
  have HN := Lib.hid (take_in q k bs e w h.rest hk)
  have HK := Lib.hid hk
  clear h hk
  go_enter Tryz.func159, Tryz.ntmps159
  go_wp2_with fail
  refine (made_in p q w x0).mono ?_
  rintro en w1 ⟨rfl, hw⟩
  rw [hw]
  clear hw w1
  go_wp2_with fail
  refine HN.out.mono ?_
  rintro en w1 ⟨⟨A, c, rfl, hb, hA⟩, hr, ht⟩
  have hC := Clone_in (tk bs e k).1 A c w1 hb hA (Nat.le_trans (tk_len bs e k) (by have := HK.out; omega))
  have HR := Lib.hid hr; have HT := Lib.hid ht; have HC := Lib.hid hC
  clear hb hA hr ht hC HN
  go_wp2_with fail
  refine HC.out.mono ?_
  rintro en w2 ⟨B, d, rfl, h1, h2, h3, h4, h5⟩
  have hz := HT.out.size
  have hfin : RtOut p q bs e k w (.returned (.slice B (tk bs e k).1.length d)) w2 := ⟨B, d, rfl, fun hne => by obtain ⟨g, a, b, c⟩ := h1 hne; exact ⟨g, a, by omega, c⟩, fun g off e => by have := h3 g off e; omega, (HH.out.next HR.out HT.out).keep h5, HT.out.below h5⟩
  have HF := Lib.hid hfin
  clear h1 h2 h3 h4 h5 hfin hz
  go_wp2_with fail
  go_ret
  exact HF.out
set_option maxRecDepth 100000 in
set_option maxHeartbeats 1000000 in
theorem RLeft_in (p q : Nat) (bs : List UInt8) (e : Int) (w : World) (h : RdAt w p q bs e) : Calls Tryz.prog 117 #[.pointer (some ⟨p, 0, none⟩)] w fun en w' => en = .returned (.int .i64 bs.length) ∧ w' = w := by
  obtain ⟨A, c, h1, _⟩ := h.rest.ex
  have x0 : w.cell? ⟨p, 0, none⟩ = some (.pointer (some ⟨q, 0, none⟩)) := h.own.cell 0
  have x1 : w.cell? ⟨q, 0, none⟩ = some (.slice A bs.length c) := h1.cell 0
  clear h h1
  go_enter Tryz.func117, Tryz.ntmps117
  go_wp2_with fail
  refine (made_in p q w x0).mono ?_
  rintro en w1 ⟨rfl, hw⟩
  rw [hw]
  clear hw w1
  go_wp2_with fail
  go_ret
  exact ⟨rfl, rfl⟩
set_option maxRecDepth 100000 in
set_option maxHeartbeats 1000000 in
theorem RErr_in (p q : Nat) (bs : List UInt8) (e : Int) (w : World) (h : RdAt w p q bs e) : Calls Tryz.prog 154 #[.pointer (some ⟨p, 0, none⟩)] w fun en w' => en = .returned (.int .i64 e) ∧ w' = w := by
  obtain ⟨A, c, h1, _⟩ := h.rest.ex
  have x0 : w.cell? ⟨p, 0, none⟩ = some (.pointer (some ⟨q, 0, none⟩)) := h.own.cell 0
  have x1 : w.cell? ⟨q, 1, none⟩ = some (.int .i64 e) := h1.cell 1
  clear h h1
  go_enter Tryz.func154, Tryz.ntmps154
  go_wp2_with fail
  refine (made_in p q w x0).mono ?_
  rintro en w1 ⟨rfl, hw⟩
  rw [hw]
  clear hw w1
  go_wp2_with fail
  go_ret
  exact ⟨rfl, rfl⟩
end Go.Proofs.YtbnkanehjnepbaaGreatDoor.Oc
end

/- Layer 1: octets: a writer. -/
section
set_option linter.unusedVariables false
set_option linter.unusedSimpArgs false
namespace Go.Proofs.YtbnkanehjnepbaaGreatDoor.Oc
open Go.RowKit

/-- a writer that has these bytes -/
structure WrAt (w : World) (p : Nat) (bs : List UInt8) : Prop where
  ex : ∃ A c, Arr w p 122 #[.slice A bs.length c] ∧ Bs w A bs ∧ (A = none → bs = [] ∧ c = 0) ∧ bs.length ≤ c ∧ okA A ∧ (∀ g off, A = some ⟨g, off, none⟩ → g ≠ p)
theorem WrAt.keep {w w' : World} {p : Nat} {bs : List UInt8} (h : WrAt w p bs) (hb : Below w.heap.size w w') : WrAt w' p bs := by
  obtain ⟨A, c, h1, h2, h3⟩ := h.ex
  exact ⟨A, c, h1.keep hb, h2.keep hb, h3⟩
theorem WrAt.fresh (w : World) : WrAt (w.alloc (.cells #[.slice none 0 0] 122)) w.heap.size [] := ⟨none, 0, Arr.fresh _ _ _, Bs.nil _ _, fun _ => ⟨rfl, rfl⟩, Nat.le_refl _, okA_none, fun g off e => by cases e⟩
def AdOut (p : Nat) (bs : List UInt8) (w : World) (e : Ending) (w' : World) : Prop := (∃ u, e = .returned u) ∧ WrAt w' p bs ∧ Tch (· = p) w w'

-- octets.Writer.add
set_option maxRecDepth 100000 in
set_option maxHeartbeats 2000000 in
theorem add_in (p : Nat) (bs cs : List UInt8) (ad : Addr) (d : Nat) (w : World) (h : WrAt w p bs) (hc : Bs w (some ad) cs) (hne : cs ≠ []) (hl : bs.length + cs.length ≤ 70000000) :
    Calls Tryz.prog 189 #[.pointer (some ⟨p, 0, none⟩), .slice (some ad) cs.length d] w (AdOut p (bs ++ cs) w) := by
  obtain ⟨A, c, h1, h2, h3, h4, h5, h6⟩ := h.ex
  have x0 : w.cell? ⟨p, 0, none⟩ = some (.slice A bs.length c) := h1.cell 0
  have m0 := h1.mark 0
  have hpl := h1.lt
  have hcl : 0 < cs.length := List.length_pos_iff.2 hne
  have hcap : (bs.length : Int) ≤ (c : Int) := by omega
  have H1 := Lib.hid h1; have H2 := Lib.hid h2; have H3 := Lib.hid h3; have H5 := Lib.hid h5; have H6 := Lib.hid h6; have HC := Lib.hid hc
  clear h h1 h2 h3 h5 h6 hc
  go_enter Tryz.func189, Tryz.ntmps189
  go_wp2_with fail
  refine region_any_drew (by kernel_rfl) ?_
  refine AnyTill.any (S := (fun w' => w'.cell? ⟨p, 0, none⟩ = some (.slice A bs.length c))) (t := 20) _ _ _ _ ?_
  have hHeld := (show (fun w' => w'.cell? ⟨p, 0, none⟩ = some (.slice A bs.length c)) w.drew from x0)
  refine till_take (i := 0) (oi := ?o1) (d := (some 6)) (v := ?v1) ?hi1 (by kernel_rfl) (by kernel_rfl) (by kernel_rfl) (by kernel_rfl) (by kernel_rfl) (fun _ _ _ h => h) ?hd1 ?hw1 ?hy1 hHeld ?_
  case hi1 => (simp only [List.getElem?_toArray, List.getElem?_cons_zero]; exact rfl)
  case hd1 => rfl
  case hw1 => rfl
  case hy1 => (intro w hSw; (try dsimp only at hSw); go_simp; try with_reducible rfl)
  try simp only [Act.put, List.setIfInBounds_toArray, List.set_cons_zero, List.set_cons_succ]
  refine till_take (i := 1) (oi := ?o2) (d := (some 7)) (v := ?v2) ?hi2 (by kernel_rfl) (by kernel_rfl) (by kernel_rfl) (by kernel_rfl) (by kernel_rfl) (fun _ _ _ h => h) ?hd2 ?hw2 ?hy2 hHeld ?_
  case hi2 => (simp only [List.getElem?_toArray, List.getElem?_cons_zero, List.getElem?_cons_succ]; exact rfl)
  case hd2 => rfl
  case hw2 => rfl
  case hy2 => (intro w hSw; (try dsimp only at hSw); go_simp; try with_reducible rfl)
  try simp only [Act.put, List.setIfInBounds_toArray, List.set_cons_zero, List.set_cons_succ]
  refine till_take (i := 2) (oi := ?o3) (d := (some 8)) (v := ?v3) ?hi3 (by kernel_rfl) (by kernel_rfl) (by kernel_rfl) (by kernel_rfl) (by kernel_rfl) (fun _ _ _ h => h) ?hd3 ?hw3 ?hy3 hHeld ?_
  case hi3 => (simp only [List.getElem?_toArray, List.getElem?_cons_zero, List.getElem?_cons_succ]; exact rfl)
  case hd3 => rfl
  case hw3 => rfl
  case hy3 => (intro w hSw; (try dsimp only at hSw); go_simp; try with_reducible rfl)
  try simp only [Act.put, List.setIfInBounds_toArray, List.set_cons_zero, List.set_cons_succ]
  refine till_take (i := 3) (oi := ?o4) (d := (some 9)) (v := ?v4) ?hi4 (by kernel_rfl) (by kernel_rfl) (by kernel_rfl) (by kernel_rfl) (by kernel_rfl) (fun _ _ _ h => h) ?hd4 ?hw4 ?hy4 hHeld ?_
  case hi4 => (simp only [List.getElem?_toArray, List.getElem?_cons_zero, List.getElem?_cons_succ]; exact rfl)
  case hd4 => rfl
  case hw4 => rfl
  case hy4 => (intro w hSw; (try dsimp only at hSw); go_simp; try with_reducible rfl)
  try simp only [Act.put, List.setIfInBounds_toArray, List.set_cons_zero, List.set_cons_succ]
  refine till_take (i := 4) (oi := ?o5) (d := (some 10)) (v := ?v5) ?hi5 (by kernel_rfl) (by kernel_rfl) (by kernel_rfl) (by kernel_rfl) (by kernel_rfl) (fun _ _ _ h => h) ?hd5 ?hw5 ?hy5 hHeld ?_
  case hi5 => (simp only [List.getElem?_toArray, List.getElem?_cons_zero, List.getElem?_cons_succ]; exact rfl)
  case hd5 => rfl
  case hw5 => rfl
  case hy5 => (intro w hSw; (try dsimp only at hSw); go_simp; try with_reducible rfl)
  try simp only [Act.put, List.setIfInBounds_toArray, List.set_cons_zero, List.set_cons_succ]
  refine till_take (i := 5) (oi := ?o6) (d := (some 11)) (v := ?v6) ?hi6 (by kernel_rfl) (by kernel_rfl) (by kernel_rfl) (by kernel_rfl) (by kernel_rfl) (fun _ _ _ h => h) ?hd6 ?hw6 ?hy6 hHeld ?_
  case hi6 => (simp only [List.getElem?_toArray, List.getElem?_cons_zero, List.getElem?_cons_succ]; exact rfl)
  case hd6 => rfl
  case hw6 => rfl
  case hy6 => (intro w hSw; (try dsimp only at hSw); go_simp; try with_reducible rfl)
  try simp only [Act.put, List.setIfInBounds_toArray, List.set_cons_zero, List.set_cons_succ]
  refine till_take (i := 6) (oi := ?o7) (d := (some 12)) (v := ?v7) ?hi7 (by kernel_rfl) (by kernel_rfl) (by kernel_rfl) (by kernel_rfl) (by kernel_rfl) (fun _ _ _ h => h) ?hd7 ?hw7 ?hy7 hHeld ?_
  case hi7 => (simp only [List.getElem?_toArray, List.getElem?_cons_zero, List.getElem?_cons_succ]; exact rfl)
  case hd7 => rfl
  case hw7 => rfl
  case hy7 => (intro w hSw; (try dsimp only at hSw); go_simp; try with_reducible rfl)
  try simp only [Act.put, List.setIfInBounds_toArray, List.set_cons_zero, List.set_cons_succ]
  refine till_take (i := 7) (oi := ?o8) (d := (some 13)) (v := ?v8) ?hi8 (by kernel_rfl) (by kernel_rfl) (by kernel_rfl) (by kernel_rfl) (by kernel_rfl) (fun _ _ _ h => h) ?hd8 ?hw8 ?hy8 hHeld ?_
  case hi8 => (simp only [List.getElem?_toArray, List.getElem?_cons_zero, List.getElem?_cons_succ]; exact rfl)
  case hd8 => rfl
  case hw8 => rfl
  case hy8 => (intro w hSw; (try dsimp only at hSw); go_simp; try with_reducible rfl)
  try simp only [Act.put, List.setIfInBounds_toArray, List.set_cons_zero, List.set_cons_succ]
  refine till_take (i := 8) (oi := ?o9) (d := (some 14)) (v := ?v9) ?hi9 (by kernel_rfl) (by kernel_rfl) (by kernel_rfl) (by kernel_rfl) (by kernel_rfl) (fun _ _ _ h => h) ?hd9 ?hw9 ?hy9 hHeld ?_
  case hi9 => (simp only [List.getElem?_toArray, List.getElem?_cons_zero, List.getElem?_cons_succ]; exact rfl)
  case hd9 => rfl
  case hw9 => rfl
  case hy9 => (intro w hSw; (try dsimp only at hSw); go_simp; try with_reducible rfl)
  try simp only [Act.put, List.setIfInBounds_toArray, List.set_cons_zero, List.set_cons_succ]
  refine till_take (i := 9) (oi := ?o10) (d := (some 15)) (v := ?v10) ?hi10 (by kernel_rfl) (by kernel_rfl) (by kernel_rfl) (by kernel_rfl) (by kernel_rfl) (fun _ _ _ h => h) ?hd10 ?hw10 ?hy10 hHeld ?_
  case hi10 => (simp only [List.getElem?_toArray, List.getElem?_cons_zero, List.getElem?_cons_succ]; exact rfl)
  case hd10 => rfl
  case hw10 => rfl
  case hy10 => (intro w hSw; (try dsimp only at hSw); go_simp; try with_reducible rfl)
  try simp only [Act.put, List.setIfInBounds_toArray, List.set_cons_zero, List.set_cons_succ]
  refine till_take (i := 10) (oi := ?o11) (d := (some 16)) (v := ?v11) ?hi11 (by kernel_rfl) (by kernel_rfl) (by kernel_rfl) (by kernel_rfl) (by kernel_rfl) (fun _ _ _ h => h) ?hd11 ?hw11 ?hy11 hHeld ?_
  case hi11 => (simp only [List.getElem?_toArray, List.getElem?_cons_zero, List.getElem?_cons_succ]; exact rfl)
  case hd11 => rfl
  case hw11 => rfl
  case hy11 => (intro w hSw; (try dsimp only at hSw); go_simp; try with_reducible rfl)
  try simp only [Act.put, List.setIfInBounds_toArray, List.set_cons_zero, List.set_cons_succ]
  refine till_take (i := 11) (oi := ?o12) (d := (some 17)) (v := ?v12) ?hi12 (by kernel_rfl) (by kernel_rfl) (by kernel_rfl) (by kernel_rfl) (by kernel_rfl) (fun _ _ _ h => h) ?hd12 ?hw12 ?hy12 hHeld ?_
  case hi12 => (simp only [List.getElem?_toArray, List.getElem?_cons_zero, List.getElem?_cons_succ]; exact rfl)
  case hd12 => rfl
  case hw12 => rfl
  case hy12 => (intro w hSw; (try dsimp only at hSw); go_simp; try with_reducible rfl)
  try simp only [Act.put, List.setIfInBounds_toArray, List.set_cons_zero, List.set_cons_succ]
  refine till_take (i := 12) (oi := ?o13) (d := (some 18)) (v := ?v13) ?hi13 (by kernel_rfl) (by kernel_rfl) (by kernel_rfl) (by kernel_rfl) (by kernel_rfl) (fun _ _ _ h => h) ?hd13 ?hw13 ?hy13 hHeld ?_
  case hi13 => (simp only [List.getElem?_toArray, List.getElem?_cons_zero, List.getElem?_cons_succ]; exact rfl)
  case hd13 => rfl
  case hw13 => rfl
  case hy13 => (intro w hSw; (try dsimp only at hSw); go_simp; try with_reducible rfl)
  try simp only [Act.put, List.setIfInBounds_toArray, List.set_cons_zero, List.set_cons_succ]
  refine till_take (i := 13) (oi := ?o14) (d := (some 19)) (v := ?v14) ?hi14 (by kernel_rfl) (by kernel_rfl) (by kernel_rfl) (by kernel_rfl) (by kernel_rfl) (fun _ _ _ h => h) ?hd14 ?hw14 ?hy14 hHeld ?_
  case hi14 => (simp only [List.getElem?_toArray, List.getElem?_cons_zero, List.getElem?_cons_succ]; exact rfl)
  case hd14 => rfl
  case hw14 => rfl
  case hy14 => (intro w hSw; (try dsimp only at hSw); go_simp; try with_reducible rfl)
  try simp only [Act.put, List.setIfInBounds_toArray, List.set_cons_zero, List.set_cons_succ]
  refine till_take (i := 14) (oi := ?o15) (d := (some 20)) (v := ?v15) ?hi15 (by kernel_rfl) (by kernel_rfl) (by kernel_rfl) (by kernel_rfl) (by kernel_rfl) (fun _ _ _ h => h) ?hd15 ?hw15 ?hy15 hHeld ?_
  case hi15 => (simp only [List.getElem?_toArray, List.getElem?_cons_zero, List.getElem?_cons_succ]; exact rfl)
  case hd15 => rfl
  case hw15 => rfl
  case hy15 => (intro w hSw; (try dsimp only at hSw); go_simp; try with_reducible rfl)
  try simp only [Act.put, List.setIfInBounds_toArray, List.set_cons_zero, List.set_cons_succ]
  refine till_take (i := 15) (oi := ?o16) (d := (some 21)) (v := ?v16) ?hi16 (by kernel_rfl) (by kernel_rfl) (by kernel_rfl) (by kernel_rfl) (by kernel_rfl) (fun _ _ _ h => h) ?hd16 ?hw16 ?hy16 hHeld ?_
  case hi16 => (simp only [List.getElem?_toArray, List.getElem?_cons_zero, List.getElem?_cons_succ]; exact rfl)
  case hd16 => rfl
  case hw16 => rfl
  case hy16 => (intro w hSw; (try dsimp only at hSw); go_simp; try with_reducible rfl)
  try simp only [Act.put, List.setIfInBounds_toArray, List.set_cons_zero, List.set_cons_succ]
  refine till_take (i := 16) (oi := ?o17) (d := (some 22)) (v := ?v17) ?hi17 (by kernel_rfl) (by kernel_rfl) (by kernel_rfl) (by kernel_rfl) (by kernel_rfl) (fun _ _ _ h => h) ?hd17 ?hw17 ?hy17 hHeld ?_
  case hi17 => (simp only [List.getElem?_toArray, List.getElem?_cons_zero, List.getElem?_cons_succ]; exact rfl)
  case hd17 => rfl
  case hw17 => rfl
  case hy17 => (intro w hSw; (try dsimp only at hSw); go_simp; try with_reducible rfl)
  try simp only [Act.put, List.setIfInBounds_toArray, List.set_cons_zero, List.set_cons_succ]
  refine AnyTill.step (i := 17) (by kernel_rfl) (by kernel_rfl) rfl (fun K hK => ?_)
  rw [if_pos (by rfl)]
  refine wp_app1 _ (.tmp 21) (.tmp 22) rfl bs cs A bs.length bs.length rfl rfl (by rintro rfl; exact ⟨by rw [(H3.out rfl).1]; rfl, by rw [(H3.out rfl).1]; rfl⟩) H2.out ad cs.length d rfl rfl HC.out (by omega) (by omega) ?_
  intro g5 c5 w5 hg5 hb5 hx5 hc5
  have x5 : w5.cell? ⟨p, 0, none⟩ = some (.slice A bs.length c) := (hx5.cell (p := ⟨p, 0, none⟩) hpl).trans x0
  have m5 := (hx5.frozen (p := ⟨p, 0, none⟩) hpl).trans m0
  have HG5 := Lib.hid hg5; have HB5 := Lib.hid hb5; have HX5 := Lib.hid hx5; have HC5 := Lib.hid hc5
  clear hg5 hb5 hx5 hc5
  refine hK.out _ _ (by exact x5) (fun hHeld17 => ?_)
  clear hK K
  try simp only [Act.put, List.setIfInBounds_toArray, List.set_cons_zero, List.set_cons_succ]
  refine till_pure (i := 18) (oi := ?o18) (d := (some 24)) (v := ?v18) ?hi18 (by kernel_rfl) (by kernel_rfl) (by kernel_rfl) (by kernel_rfl) (fun _ _ _ h => h) ?hd18 ?hw18 ?hy18 hHeld17 ?_
  case hi18 => (simp only [List.getElem?_toArray, List.getElem?_cons_zero, List.getElem?_cons_succ]; exact rfl)
  case hd18 => rfl
  case hw18 => rfl
  case hy18 => (intro w; go_simp; try with_reducible rfl)
  try simp only [Act.put, List.setIfInBounds_toArray, List.set_cons_zero, List.set_cons_succ]
  refine till_take (i := 19) (oi := ?o19) (d := (some 25)) (v := ?v19) ?hi19 (by kernel_rfl) (by kernel_rfl) (by kernel_rfl) (by kernel_rfl) (by kernel_rfl) (fun _ _ _ h => h) ?hd19 ?hw19 ?hy19 hHeld17 ?_
  case hi19 => (simp only [List.getElem?_toArray, List.getElem?_cons_zero, List.getElem?_cons_succ]; exact rfl)
  case hd19 => rfl
  case hw19 => rfl
  case hy19 => (intro w hSw; (try dsimp only at hSw); go_simp; try with_reducible rfl)
  try simp only [Act.put, List.setIfInBounds_toArray, List.set_cons_zero, List.set_cons_succ]
  refine AnyTill.last (by kernel_rfl) ?_
  refine any_drop 20 (by kernel_rfl) (by kernel_rfl) ?_
  simp only [List.drop_succ_cons, List.drop_zero]
  go_wp2_with fail
  have hb : Below w.heap.size w w5 := ext_trans (ext_drew (Below.refl _ _)) HX5.out
  have ha5 : Arr w5 p 122 #[.slice A bs.length c] := H1.out.keep hb
  have hg5 := HG5.out
  have hc5 := HC5.out
  refine bodyPost_end (results_none Tryz.results189 _ _ _) rfl ⟨⟨_, rfl⟩, ⟨some ⟨g5, 0, none⟩, c5, by simpa using ha5.put 0 (.slice (some ⟨g5, 0, none⟩) (bs.length + cs.length) c5), ?_, (fun e => by cases e), by simpa using hc5, okA_some _ _, fun g off e => ?_⟩, ?_⟩
  · refine HB5.out.bs.tch (Tch.at w5 p 0 _) fun g off e _ e2 => ?_
    injection e with e; injection e with e
    have : w.heap.size ≤ g5 := hg5
    omega
  · injection e with e; injection e with e
    have : w.heap.size ≤ g5 := hg5
    omega
  · exact (Tch.of_below (S := (· = p)) (show Below w.heap.size w w5 from hb)).at2 0 _
set_option maxRecDepth 100000 in
set_option maxHeartbeats 1000000 in
theorem number_w (p k n : Nat) (bs : List UInt8) (w : World) (h : WrAt w p bs) (hk : 1 ≤ k ∧ k ≤ 8) (hl : bs.length ≤ 67108900) (hn : n < 18446744073709551616) :
    Calls Tryz.prog 122 #[.pointer (some ⟨p, 0, none⟩), .int .u64 n, .int .i64 k] w (AdOut p (bs ++ le n k) w) := by
  obtain ⟨i0, hi, hz0, hz1, hz2⟩ := info_parts u8_info
  have HH := Lib.hid h
  have hk1 : (1 : Int) ≤ (k : Int) := by omega
  have hk8 : (k : Int) ≤ 8 := by omega
  have hpl : p < w.heap.size := by obtain ⟨A, c, h1, _⟩ := h.ex; exact h1.lt
  clear h
  go_enter Tryz.func122, Tryz.ntmps122
  go_wp2_with (refine wpList_make_full _ rfl _ _ 51 rfl w.heap.size 5 i0 (.int .u8 0) 1 Tryz.underlying51 hi hz0 hz1 .i64 .i64 _ _ k rfl rfl rfl rfl (by rw [hz2]; omega) (by unfold maxLen; omega) (Nat.le_refl _) ?_; intro w5 hown5 hg5; have HO5 := Lib.hid hown5; have HG5 := Lib.hid hg5; clear hown5 hg5)
  have hb5 : Below w.heap.size w w5 := Below.grown (Below.refl _ _) HG5.out (Nat.le_refl _) (by simp)
  obtain ⟨gb, hgb⟩ : ∃ gb, w.heap.size = gb := ⟨_, rfl⟩
  have hrow : ∃ cs : Array Value, Arr w5 gb 5 cs ∧ cs.size = k := by
    rcases HO5.out.2 with ⟨h0, _⟩ | ⟨g', cap, cur, hv, hb, hh, hnc, hcm, hcs, ht⟩
    · cases h0
    · injection hv with e1 _ e2
      injection e1 with e1
      injection e1 with e1
      subst e1 e2
      rw [← hgb]
      exact ⟨cur, hh, by omega⟩
  have HB5 := Lib.hid hb5; have HROW := Lib.hid hrow; have HGB := Lib.hid hgb
  rw [hgb]
  clear hb5 hrow HO5 HG5 hgb
  go_loopw [12] (fun i wr => ∃ (j : Nat) (cs : Array Value), j ≤ k ∧ i = .int .i64 j ∧ Arr wr gb 5 cs ∧ cs.size = k ∧ (∀ (x : Nat) (u : Value), (bytesV (le n j))[x]? = some u → cs[x]? = some u) ∧ Below w.heap.size w wr) (fun i _ => (k - intOf i).toNat)
  case atStart =>
    obtain ⟨cs, h1, h2⟩ := HROW.out
    exact ⟨0, cs, by omega, rfl, h1, h2, fun x u hu => by simp [le, bytesV] at hu, HB5.out⟩
  case round =>
    obtain ⟨j, cs, hj, rfl, hA, hcs, hin, hbw⟩ := hrel
    have HA := Lib.hid hA; have HIN := Lib.hid hin; have HBW := Lib.hid hbw
    clear hA hin hbw
    by_cases h : j < k
    · have h' : (j : Int) < (k : Int) := by omega
      have hj0 : (0 : Int) ≤ (j : Int) := by omega
      have x0 : wr.cell? ⟨gb, j, none⟩ = some cs[j] := by rw [HA.out.cell j]; exact Array.getElem?_eq_getElem (by omega)
      have m0 := HA.out.mark j
      have hby := byte_of n j
      have HBY := Lib.hid hby
      clear hby
      go_wp2_with fail
      go_roundw
      case rel =>
        refine ⟨j + 1, cs.setIfInBounds j (byteV (UInt8.ofNat (n / 256 ^ j))), by omega, by go_num, ?_, by simp [hcs], fun x u hu => ?_, ?_⟩
        · rw [HBY.out]; exact HA.out.put j _
        · rw [le, bytesV_app] at hu
          rw [Array.getElem?_setIfInBounds]
          by_cases hxj : j = x
          · subst hxj
            rw [if_pos rfl, if_pos (by omega)]
            rw [List.getElem?_append_right (by rw [bytesV_len, le_len]; exact Nat.le_refl _)] at hu
            simpa [bytesV_len, le_len, bytesV] using hu
          · rw [if_neg hxj]
            have hx := (List.getElem?_eq_some_iff.1 hu).1
            rw [List.length_append, bytesV_len, bytesV_len, le_len] at hx
            rw [List.getElem?_append_left (by rw [bytesV_len, le_len]; simp at hx; omega)] at hu
            exact HIN.out x u hu
        · exact ext_setCell HBW.out (show w.heap.size ≤ gb by have := HGB.out; omega) _
      case measure => simp [intOf]; omega
    · have h' : ¬ (j : Int) < (k : Int) := by omega
      have hjk : j = k := by omega
      subst hjk
      go_wp2_with fail
      have hB : Bs wr (some ⟨gb, 0, none⟩) (le n j) := fun hne => ⟨gb, 0, rfl, HA.out.lt, fun x u hu => by
        rw [Nat.zero_add, HA.out.cell x]; exact HIN.out x u hu⟩
      have hadd := add_in p bs (le n j) ⟨gb, 0, none⟩ j wr (HH.out.keep HBW.out) hB (by intro e; have := congrArg List.length e; rw [le_len] at this; simp at this; omega) (by rw [le_len]; omega)
      rw [le_len] at hadd
      refine hadd.mono ?_
      rintro en w6 ⟨⟨u, rfl⟩, h1, h2⟩
      have hfin : (∃ u', Ending.returned (.tuple #[]) = .returned u') ∧ WrAt w6 p (bs ++ le n j) ∧ Tch (· = p) w w6 := ⟨⟨_, rfl⟩, h1, (Tch.of_below HBW.out).trans h2⟩
      have HF := Lib.hid hfin
      clear h1 h2 hfin hadd hB
      go_wp2_with fail
      exact bodyPost_end (results_none Tryz.results122 _ _ _) rfl HF.out

-- octets.Writer.Two
set_option maxRecDepth 100000 in
set_option maxHeartbeats 1000000 in
theorem WTwo_in (p n : Nat) (bs : List UInt8) (w : World) (h : WrAt w p bs) (hl : bs.length ≤ 67108900) (hn : n < 65536) : Calls Tryz.prog 60 #[.pointer (some ⟨p, 0, none⟩), .int .u16 n] w (AdOut p (bs ++ le n 2) w) := by
  have HN := Lib.hid (number_w p 2 n bs w h (by decide) hl (by omega))
  have hn0 : (0 : Int) ≤ (n : Int) := by omega
  have hn1 : (n : Int) < 65536 := by omega
  have hw : IntKind.u64.wrap (n : Int) = (n : Int) := by rw [IntKind.wrap_u64]; omega
  clear h
  go_enter Tryz.func60, Tryz.ntmps60
  go_wp2_with fail
  refine HN.out.mono ?_
  rintro en w1 ⟨⟨u, rfl⟩, h2, h3⟩
  have HF := Lib.hid (show AdOut p (bs ++ le n 2) w (.returned (.tuple #[])) w1 from ⟨⟨_, rfl⟩, h2, h3⟩)
  clear h2 h3
  go_wp2_with fail
  exact bodyPost_end (results_none Tryz.results60 _ _ _) rfl HF.out
-- octets.Writer.Four
set_option maxRecDepth 100000 in
set_option maxHeartbeats 1000000 in
theorem WFour_in (p n : Nat) (bs : List UInt8) (w : World) (h : WrAt w p bs) (hl : bs.length ≤ 67108900) (hn : n < 4294967296) : Calls Tryz.prog 61 #[.pointer (some ⟨p, 0, none⟩), .int .u32 n] w (AdOut p (bs ++ le n 4) w) := by
  have HN := Lib.hid (number_w p 4 n bs w h (by decide) hl (by omega))
  have hn0 : (0 : Int) ≤ (n : Int) := by omega
  have hn1 : (n : Int) < 4294967296 := by omega
  have hw : IntKind.u64.wrap (n : Int) = (n : Int) := by rw [IntKind.wrap_u64]; omega
  clear h
  go_enter Tryz.func61, Tryz.ntmps61
  go_wp2_with fail
  refine HN.out.mono ?_
  rintro en w1 ⟨⟨u, rfl⟩, h2, h3⟩
  have HF := Lib.hid (show AdOut p (bs ++ le n 4) w (.returned (.tuple #[])) w1 from ⟨⟨_, rfl⟩, h2, h3⟩)
  clear h2 h3
  go_wp2_with fail
  exact bodyPost_end (results_none Tryz.results61 _ _ _) rfl HF.out
-- octets.Writer.Eight
set_option maxRecDepth 100000 in
set_option maxHeartbeats 1000000 in
theorem WEight_in (p n : Nat) (bs : List UInt8) (w : World) (h : WrAt w p bs) (hl : bs.length ≤ 67108900) (hn : n < 18446744073709551616) : Calls Tryz.prog 63 #[.pointer (some ⟨p, 0, none⟩), .int .u64 n] w (AdOut p (bs ++ le n 8) w) := by
  have HN := Lib.hid (number_w p 8 n bs w h (by decide) hl (by omega))
  have hn0 : (0 : Int) ≤ (n : Int) := by omega
  have hn1 : (n : Int) < 18446744073709551616 := by omega
  have hw : IntKind.u64.wrap (n : Int) = (n : Int) := by rw [IntKind.wrap_u64]; omega
  clear h
  go_enter Tryz.func63, Tryz.ntmps63
  go_wp2_with fail
  refine HN.out.mono ?_
  rintro en w1 ⟨⟨u, rfl⟩, h2, h3⟩
  have HF := Lib.hid (show AdOut p (bs ++ le n 8) w (.returned (.tuple #[])) w1 from ⟨⟨_, rfl⟩, h2, h3⟩)
  clear h2 h3
  go_wp2_with fail
  exact bodyPost_end (results_none Tryz.results63 _ _ _) rfl HF.out
-- octets.Writer.Put
set_option maxRecDepth 100000 in
set_option maxHeartbeats 1000000 in
theorem WPut_in (p : Nat) (bs cs : List UInt8) (ad : Addr) (d : Nat) (w : World) (h : WrAt w p bs) (hc : Bs w (some ad) cs) (hne : cs ≠ []) (hl : bs.length + cs.length ≤ 70000000) : Calls Tryz.prog 126 #[.pointer (some ⟨p, 0, none⟩), .slice (some ad) cs.length d] w (AdOut p (bs ++ cs) w) := by
  have HN := Lib.hid (add_in p bs cs ad d w h hc hne hl)
  clear h hc hne
  go_enter Tryz.func126, Tryz.ntmps126
  go_wp2_with fail
  refine HN.out.mono ?_
  rintro en w1 ⟨⟨u, rfl⟩, h2, h3⟩
  have HF := Lib.hid (show AdOut p (bs ++ cs) w (.returned (.tuple #[])) w1 from ⟨⟨_, rfl⟩, h2, h3⟩)
  clear h2 h3
  go_wp2_with fail
  exact bodyPost_end (results_none Tryz.results126 _ _ _) rfl HF.out
-- octets.Writer.Out
set_option maxRecDepth 100000 in
set_option maxHeartbeats 1000000 in
theorem WOut_in (p : Nat) (bs : List UInt8) (w : World) (h : WrAt w p bs) (hl : bs.length ≤ 70000000) : Calls Tryz.prog 48 #[.pointer (some ⟨p, 0, none⟩)] w (ClOut bs w) := by
  obtain ⟨A, c, h1, h2, h3, h4, h5, h6⟩ := h.ex
  have x0 : w.cell? ⟨p, 0, none⟩ = some (.slice A bs.length c) := h1.cell 0
  have HC := Lib.hid (Clone_in bs A c w h2 h5 (by omega))
  clear h h1 h2 h3 h5 h6
  go_enter Tryz.func48, Tryz.ntmps48
  go_wp2_with fail
  refine HC.out.mono ?_
  rintro en w1 h1
  obtain ⟨B, d, rfl, h2⟩ := h1
  have HF := Lib.hid (show ClOut bs w (.returned (.slice B bs.length d)) w1 from ⟨B, d, rfl, h2⟩)
  clear h2
  go_wp2_with fail
  go_ret
  exact HF.out

end Go.Proofs.YtbnkanehjnepbaaGreatDoor.Oc
end

/- The engine's layers as plain functions: disk, power, region. No program in sight. -/
section
set_option linter.unusedVariables false
set_option linter.unusedSimpArgs false
namespace Go.Proofs.YtbnkanehjnepbaaGreatDoor.En

abbrev By := List UInt8

/-- a disk: durable sectors, writes that wait -/
structure Dk where
  size : Nat
  dur : List By
  row : List (Nat × By)
def rowLook : List (Nat × By) → Nat → Option By
  | [], _ => none
  | x :: r, i => match rowLook r i with
    | some b => some b
    | none => if x.1 = i then some x.2 else none
def Dk.look (d : Dk) (i : Nat) : By := (rowLook d.row i).getD (d.dur.getD i [])
def Dk.bad (d : Dk) (at_ : Int) : Bool := decide (at_ < 0) || decide ((d.dur.length : Int) ≤ at_)
def Dk.write (d : Dk) (at_ : Int) (b : By) : Int × Dk :=
  if d.bad at_ = true then (50, d) else if b.length = d.size then (0, { d with row := d.row ++ [(at_.toNat, b)] }) else (3, d)
def Dk.read (d : Dk) (at_ : Int) : Int × By :=
  if d.bad at_ = true then (50, []) else (0, d.look at_.toNat)
/-- the first k bytes of b over those of s -/
def over (s b : By) (k : Nat) : By := b.take k ++ s.drop k
theorem over_len {s b : By} {k : Nat} (h : b.length = s.length) : (over s b k).length = s.length := by
  simp [over]; omega
def settleL (of : Nat → Nat) : List By → Nat → List (Nat × By) → List By
  | dur, _, [] => dur
  | dur, i, x :: r => settleL of (dur.set x.1 (over (dur.getD x.1 []) x.2 (of i))) (i + 1) r
theorem settleL_len (of : Nat → Nat) : ∀ r dur i, (settleL of dur i r).length = dur.length
  | [], _, _ => rfl
  | x :: r, dur, i => by rw [settleL, settleL_len of r, List.length_set]
def Dk.settle (d : Dk) (of : Nat → Nat) : Dk := { d with dur := settleL of d.dur 0 d.row, row := [] }
def clamp (size : Nat) (n : Int) : Nat := (min (max n 0) (size : Int)).toNat
structure Dk.Ok (d : Dk) : Prop where
  size : 1 ≤ d.size ∧ d.size ≤ 4096
  some : 1 ≤ d.dur.length ∧ d.dur.length ≤ 65536
  each : ∀ b ∈ d.dur, b.length = d.size
  waits : ∀ x ∈ d.row, x.1 < d.dur.length ∧ x.2.length = d.size

/-- a device -/
structure Dev where
  dk : Dk
  down : Bool
  armed : Int
  count : Int
/-- an operation is made: may it be done? -/
def Dev.op (d : Dev) : Bool × Dev :=
  if d.down = true then (false, d)
  else if d.armed = 0 then (false, { d with down := true, armed := -1 })
  else (true, { d with armed := if 0 < d.armed then d.armed - 1 else d.armed, count := IntKind.i64.wrap (d.count + 1) })
def Dev.write (d : Dev) (at_ : Int) (b : By) : Int × Dev :=
  if d.op.1 = true then ((d.op.2.dk.write at_ b).1, { d.op.2 with dk := (d.op.2.dk.write at_ b).2 }) else (60, d.op.2)
def Dev.read (d : Dev) (at_ : Int) : Int × By × Dev :=
  if d.op.1 = true then ((d.op.2.dk.read at_).1, (d.op.2.dk.read at_).2, d.op.2) else (60, [], d.op.2)
def Dev.sync (d : Dev) : Int × Dev :=
  if d.op.1 = true then (0, { d.op.2 with dk := d.op.2.dk.settle (fun _ => d.dk.size) }) else (60, d.op.2)
def Dev.arm (d : Dev) (n : Int) : Int × Dev := if d.down = true then (60, d) else (0, { d with armed := max n (-1) })
/-- a region: its span -/
structure Rg where
  from_ : Nat
  count : Nat
structure Piece where
  s : Nat
  f : Nat
  t : Nat
/-- the sectors that hold n bytes from at_ on, and which bytes of theirs -/
def pieces (size : Nat) : Nat → Nat → Nat → List Piece
  | 0, _, _ => []
  | k + 1, at_, n => if n = 0 then [] else
    ⟨at_ / size, at_ % size, min size (at_ % size + n)⟩ :: pieces size k (at_ + (min size (at_ % size + n) - at_ % size)) (n - (min size (at_ % size + n) - at_ % size))
def Rg.bytes (r : Rg) (size : Nat) : Nat := r.count * size
def Rg.bad (r : Rg) (size : Nat) (at_ n : Int) : Bool := decide (at_ < 0) || decide (n < 0) || decide ((r.bytes size : Int) < at_) || decide ((r.bytes size : Int) - at_ < n)
def rdP (r : Rg) : Dev → List Piece → By → Int × By × Dev
  | d, [], acc => (0, acc, d)
  | d, x :: ps, acc => if (d.read (r.from_ + x.s : Nat)).1 = 0 then rdP r (d.read (r.from_ + x.s : Nat)).2.2 ps (acc ++ ((d.read (r.from_ + x.s : Nat)).2.1.take x.t).drop x.f)
    else ((d.read (r.from_ + x.s : Nat)).1, [], (d.read (r.from_ + x.s : Nat)).2.2)
def Rg.read (r : Rg) (d : Dev) (at_ n : Int) : Int × By × Dev :=
  if r.bad d.dk.size at_ n = true then (2, [], d) else rdP r d (pieces d.dk.size n.toNat at_.toNat n.toNat) []
/-- one piece is written: what its sector holds around it is read ahead -/
def wr1 (r : Rg) (d : Dev) (x : Piece) (b : By) : Int × Dev :=
  if x.t - x.f < d.dk.size then
    if (d.read (r.from_ + x.s : Nat)).1 = 0 then
      (d.read (r.from_ + x.s : Nat)).2.2.write (r.from_ + x.s : Nat) ((d.read (r.from_ + x.s : Nat)).2.1.take x.f ++ b.take (x.t - x.f) ++ (d.read (r.from_ + x.s : Nat)).2.1.drop x.t)
    else ((d.read (r.from_ + x.s : Nat)).1, (d.read (r.from_ + x.s : Nat)).2.2)
  else d.write (r.from_ + x.s : Nat) (b.take (x.t - x.f))
def wrP (r : Rg) : Dev → List Piece → By → Int × Dev
  | d, [], _ => (0, d)
  | d, x :: ps, b => if (wr1 r d x b).1 = 0 then wrP r (wr1 r d x b).2 ps (b.drop (x.t - x.f)) else wr1 r d x b
def Rg.write (r : Rg) (d : Dev) (at_ : Int) (b : By) : Int × Dev :=
  if r.bad d.dk.size at_ b.length = true then (2, d) else wrP r d (pieces d.dk.size b.length at_.toNat b.length) b

end Go.Proofs.YtbnkanehjnepbaaGreatDoor.En
end

/- Layer 5: a disk in memory; what only looks at it. -/
section
set_option linter.unusedVariables false
set_option linter.unusedSimpArgs false
namespace Go.Proofs.YtbnkanehjnepbaaGreatDoor.Oc
open Go.RowKit
-- slices.Clone
set_option maxRecDepth 100000 in
set_option maxHeartbeats 2000000 in
theorem BClone_some (bs : List UInt8) (g off c : Nat) (w : World) (hB : Bs w (some ⟨g, off, none⟩) bs) (hne : bs ≠ []) (hl : bs.length ≤ 70368744177664) : Calls Tryz.prog 215 #[.slice (some ⟨g, off, none⟩) bs.length c] w (ClOut bs w) := by
  have hpos : 0 < bs.length := List.length_pos_iff.2 hne
  have HB := Lib.hid hB; have HN := Lib.hid hne
  have hq := nil_no ⟨g, off, none⟩ bs.length c
  clear hB hne
  go_enter Tryz.func215, Tryz.ntmps215
  go_wp2_with (refine wp_app _ rfl _ _ rfl [] bs (some ⟨w.heap.size, 0, none⟩) 0 0 rfl rfl (by simp) (Bs.nil _ _) ⟨g, off, none⟩ bs.length c rfl rfl (HB.out.keep (ext_alloc (Below.refl _ _) _)) (by omega) (by omega) ?_; intro g5 c5 w5 hg5 hb5 hx5 hc5; have HG5 := Lib.hid hg5; have HB5 := Lib.hid hb5; have HX5 := Lib.hid hx5; have HC5 := Lib.hid hc5; clear hg5 hb5 hx5 hc5)
  go_ret
  have h5 := HG5.out
  simp at h5
  exact ⟨some ⟨g5, 0, none⟩, c5, by simp, fun _ => ⟨g5, rfl, by omega, HB5.out⟩, by simpa using HC5.out, (fun g' o' e => by injection e with e; injection e with e; have := HB5.out.lt; omega), (fun e => by cases e), ext_trans (ext_alloc (Below.refl _ _) _) HX5.out⟩
set_option maxRecDepth 100000 in
set_option maxHeartbeats 2000000 in
theorem BClone_none (c : Nat) (w : World) : Calls Tryz.prog 215 #[.slice none 0 c] w (ClOut [] w) := by
  have hq := nil_yes 0 c
  go_enter Tryz.func215, Tryz.ntmps215
  go_wp2_with fail
  go_ret
  exact ⟨none, 0, rfl, fun h => absurd rfl h, Nat.le_refl _, (fun g' o' e => by cases e), fun _ => rfl, Below.refl _ _⟩
set_option maxRecDepth 100000 in
set_option maxHeartbeats 2000000 in
theorem BClone_empty (g off c : Nat) (w : World) : Calls Tryz.prog 215 #[.slice (some ⟨g, off, none⟩) 0 c] w (ClOut [] w) := by
  have hq := nil_no ⟨g, off, none⟩ 0 c
  go_enter Tryz.func215, Tryz.ntmps215
  go_wp2_with fail
  go_ret
  exact ⟨some ⟨w.heap.size, 0, none⟩, 0, rfl, fun h => absurd rfl h, Nat.le_refl _, (fun g' o' e => by injection e with e; injection e with e; subst e; exact ⟨Nat.le_refl _, by simp⟩), (fun e => by cases e), ext_alloc (Below.refl _ _) _⟩
theorem BClone_in (bs : List UInt8) (A : Option Addr) (c : Nat) (w : World) (hB : Bs w A bs) (hA : okA A) (hl : bs.length ≤ 70368744177664) : Calls Tryz.prog 215 #[.slice A bs.length c] w (ClOut bs w) := by
  by_cases hne : bs = []
  · subst hne
    cases A with
    | none => exact BClone_none c w
    | some ad => obtain ⟨g, off, rfl⟩ := hA ad rfl; exact BClone_empty g off c w
  · obtain ⟨g, off, rfl, _⟩ := hB hne
    exact BClone_some bs g off c w hB hne hl


end Go.Proofs.YtbnkanehjnepbaaGreatDoor.Oc
namespace Go.Proofs.YtbnkanehjnepbaaGreatDoor.En
open Go.RowKit
open Go.Proofs.YtbnkanehjnepbaaGreatDoor.Oc (Bs bytesV byteV okA okA_some okA_none ClOut)

/-- where a disk's parts lie -/
structure DkP where
  gd : Nat
  cd : Nat
  ad : Nat → Nat
  cp : Nat → Nat
  rv : Value
  mb : Nat
  mn : Nat
  wg : Nat → Nat
  wc : Nat → Nat
/-- the last write that waits for a sector -/
def lastIx : List (Nat × By) → Nat → Option Nat
  | [], _ => none
  | x :: r, i => match lastIx r i with
    | some j => some (j + 1)
    | none => if x.1 = i then some 0 else none
def newV (d : Dk) (q : DkP) (i : Int) : Option Value := if i < 0 then none else (lastIx d.row i.toNat).map fun j => .slice (some ⟨q.wg j, 0, none⟩) d.size (q.wc j)
def rowC (d : Dk) (q : DkP) (i : Nat) : List Value := [.int .i64 ((d.row.getD i (0, [])).1 : Nat), .slice (some ⟨q.wg i, 0, none⟩) d.size (q.wc i)]
def durC (d : Dk) (q : DkP) (i : Nat) : List Value := [.slice (some ⟨q.ad i, 0, none⟩) d.size (q.cp i)]
/-- a disk at block p; its blocks are among S's -/
structure DkLies (S : Nat → Prop) (w : World) (p : Nat) (d : Dk) (q : DkP) : Prop where
  own : Arr w p 185 #[.int .i64 d.size, .slice (some ⟨q.gd, 0, none⟩) d.dur.length q.cd, q.rv, .map (some q.mb)]
  dur : RowIn S w 51 1 (.slice (some ⟨q.gd, 0, none⟩) d.dur.length q.cd) d.dur.length (durC d q)
  each : ∀ i, i < d.dur.length → Blk w 5 (q.ad i) (d.dur.getD i []) ∧ d.size ≤ q.cp i
  row : RowIn S w 326 2 q.rv d.row.length (rowC d q)
  waits : ∀ i, i < d.row.length → Blk w 5 (q.wg i) (d.row.getD i (0, [])).2 ∧ d.size ≤ q.wc i
  newest : MapV Tryz.prog 3 .i64 w q.mb q.mn (newV d q)
  ok : d.Ok
  foot : S p ∧ S q.mb ∧ (∀ i, i < d.dur.length → S (q.ad i)) ∧ (∀ i, i < d.row.length → S (q.wg i))
  apart : (∀ i j, i < d.dur.length → j < d.dur.length → q.ad i = q.ad j → i = j) ∧ (∀ i j, i < d.dur.length → j < d.row.length → q.ad i ≠ q.wg j)
  lt : ∀ k, S k → k < w.heap.size
  few : q.mn ≤ d.row.length
def DkIn (p : Nat) (d : Dk) (S : Nat → Prop) (w : World) : Prop := ∃ q, DkLies S w p d q
theorem DkIn_loc (p : Nat) (d : Dk) : Loc (DkIn p d) := by
  refine ⟨fun ⟨q, h⟩ => h.lt, fun {S w w'} ⟨q, h⟩ hz hk => ⟨q, ?_⟩, fun {S T w} ⟨q, h⟩ hST hT => ⟨q, ?_⟩⟩
  · have hkk : ∀ k, S k → w'.heap[k]? = w.heap[k]? := hk
    exact ⟨(hkk p h.foot.1).trans h.own, h.dur.same fun g hg _ => hkk g hg, fun i hi => ⟨(h.each i hi).1.same (hkk _ (h.foot.2.2.1 i hi)), (h.each i hi).2⟩, h.row.same fun g hg _ => hkk g hg, fun i hi => ⟨(h.waits i hi).1.same (hkk _ (h.foot.2.2.2 i hi)), (h.waits i hi).2⟩, h.newest.same (hkk _ h.foot.2.1), h.ok, h.foot, h.apart, fun k hk => Nat.lt_of_lt_of_le (h.lt k hk) hz, h.few⟩
  · exact ⟨h.own, h.dur.mono fun g hg _ => hST g hg, h.each, h.row.mono fun g hg _ => hST g hg, h.waits, h.newest, h.ok, ⟨hST _ h.foot.1, hST _ h.foot.2.1, fun i hi => hST _ (h.foot.2.2.1 i hi), fun i hi => hST _ (h.foot.2.2.2 i hi)⟩, h.apart, hT, h.few⟩

-- disk.Disk.there
set_option maxRecDepth 100000 in
set_option maxHeartbeats 1000000 in
theorem there_in (p s : Nat) (hs : 1 ≤ s) (w : World) (h : w.cell? ⟨p, 0, none⟩ = some (.int .i64 s)) : Calls Tryz.prog 149 #[.pointer (some ⟨p, 0, none⟩)] w fun e w' => e = .returned (.bool true) ∧ w' = w := by
  have hs' : (0 : Int) < (s : Int) := by omega
  go_enter Tryz.func149, Tryz.ntmps149
  go_wp2_with fail
  go_ret
  exact ⟨ret_bool (a := decide (0 < s)) (decide_eq_true (by omega)), rfl⟩
set_option maxRecDepth 100000 in
set_option maxHeartbeats 1000000 in
theorem Sectors_in {p : Nat} {d : Dk} {S : Nat → Prop} {w : World} {q : DkP} (h : DkLies S w p d q) : Calls Tryz.prog 82 #[.pointer (some ⟨p, 0, none⟩)] w fun e w' => e = .returned (.int .i64 d.dur.length) ∧ w' = w := by
  have x0 : w.cell? ⟨p, 0, none⟩ = some (.int .i64 d.size) := h.own.cell 0
  have x1 : w.cell? ⟨p, 1, none⟩ = some (.slice (some ⟨q.gd, 0, none⟩) d.dur.length q.cd) := h.own.cell 1
  have HS := Lib.hid h.ok.size.1
  clear h
  go_enter Tryz.func82, Tryz.ntmps82
  go_wp2_with fail
  refine (there_in p d.size HS.out w x0).mono ?_
  rintro e w1 ⟨rfl, hw⟩
  rw [hw]
  clear hw w1
  go_wp2_with fail
  go_ret
  exact ⟨rfl, rfl⟩
set_option maxRecDepth 100000 in
set_option maxHeartbeats 1000000 in
theorem Size_in {p : Nat} {d : Dk} {S : Nat → Prop} {w : World} {q : DkP} (h : DkLies S w p d q) : Calls Tryz.prog 174 #[.pointer (some ⟨p, 0, none⟩)] w fun e w' => e = .returned (.int .i64 d.size) ∧ w' = w := by
  have x0 : w.cell? ⟨p, 0, none⟩ = some (.int .i64 d.size) := h.own.cell 0
  have HS := Lib.hid h.ok.size.1
  clear h
  go_enter Tryz.func174, Tryz.ntmps174
  go_wp2_with fail
  refine (there_in p d.size HS.out w x0).mono ?_
  rintro e w1 ⟨rfl, hw⟩
  rw [hw]
  clear hw w1
  go_wp2_with fail
  go_ret
  exact ⟨rfl, rfl⟩
set_option maxRecDepth 100000 in
set_option maxHeartbeats 1000000 in
theorem none_yes {p : Nat} {d : Dk} {S : Nat → Prop} {w : World} {q : DkP} (h : DkLies S w p d q) (at_ : Int) (hb : d.bad at_ = true) : Calls Tryz.prog 225 #[.pointer (some ⟨p, 0, none⟩), .int .i64 at_] w fun e w' => e = .returned (.int .i64 50) ∧ w' = w := by
  have x0 : w.cell? ⟨p, 0, none⟩ = some (.int .i64 d.size) := h.own.cell 0
  have x1 : w.cell? ⟨p, 1, none⟩ = some (.slice (some ⟨q.gd, 0, none⟩) d.dur.length q.cd) := h.own.cell 1
  have HS := Lib.hid h.ok.size.1
  have hc : at_ < 0 ∨ 0 ≤ at_ ∧ (d.dur.length : Int) ≤ at_ := by
    simp only [Dk.bad, Bool.or_eq_true, decide_eq_true_eq] at hb; omega
  clear h hb
  rcases hc with c1 | ⟨c0, c1⟩
  all_goals
    go_enter Tryz.func225, Tryz.ntmps225
    go_wp2_with fail
    refine (there_in p d.size HS.out w x0).mono ?_
    rintro e w1 ⟨rfl, hw⟩
    rw [hw]
    clear hw w1
    go_wp2_with fail
    go_ret
    exact ⟨rfl, rfl⟩
set_option maxRecDepth 100000 in
set_option maxHeartbeats 1000000 in
theorem none_no {p : Nat} {d : Dk} {S : Nat → Prop} {w : World} {q : DkP} (h : DkLies S w p d q) (at_ : Int) (hb : d.bad at_ = false) : Calls Tryz.prog 225 #[.pointer (some ⟨p, 0, none⟩), .int .i64 at_] w fun e w' => e = .returned (.int .i64 0) ∧ w' = w := by
  have x0 : w.cell? ⟨p, 0, none⟩ = some (.int .i64 d.size) := h.own.cell 0
  have x1 : w.cell? ⟨p, 1, none⟩ = some (.slice (some ⟨q.gd, 0, none⟩) d.dur.length q.cd) := h.own.cell 1
  have HS := Lib.hid h.ok.size.1
  have c0 : 0 ≤ at_ := by simp only [Dk.bad, Bool.or_eq_false_iff, decide_eq_false_iff_not] at hb; omega
  have c1 : at_ < (d.dur.length : Int) := by simp only [Dk.bad, Bool.or_eq_false_iff, decide_eq_false_iff_not] at hb; omega
  clear h hb
  go_enter Tryz.func225, Tryz.ntmps225
  go_wp2_with fail
  refine (there_in p d.size HS.out w x0).mono ?_
  rintro e w1 ⟨rfl, hw⟩
  rw [hw]
  clear hw w1
  go_wp2_with fail
  go_ret
  exact ⟨rfl, rfl⟩

end Go.Proofs.YtbnkanehjnepbaaGreatDoor.En
end

/- Layer 5: a disk is read. -/
section
set_option linter.unusedVariables false
set_option linter.unusedSimpArgs false
namespace Go.Proofs.YtbnkanehjnepbaaGreatDoor.En
open Go.RowKit
open Go.Proofs.YtbnkanehjnepbaaGreatDoor.Oc (Bs bytesV byteV okA okA_some okA_none ClOut)

def RdD (bs : By) (er : Int) (w : World) (e : Ending) (w' : World) : Prop :=
  ∃ A c, e = .returned (.tuple #[.slice A bs.length c, .int .i64 er]) ∧ (bs ≠ [] → ∃ g, A = some ⟨g, 0, none⟩ ∧ w.heap.size ≤ g ∧ Blk w' 5 g bs) ∧ bs.length ≤ c ∧ Below w.heap.size w w'
theorem lastIx_some : ∀ {l : List (Nat × By)} {i j : Nat}, lastIx l i = some j → j < l.length ∧ rowLook l i = some (l.getD j (0, [])).2
  | [], _, _, h => by simp [lastIx] at h
  | x :: r, i, j, h => by
    rw [lastIx] at h
    rw [rowLook]
    cases hr : lastIx r i with
    | some k =>
      rw [hr] at h
      injection h with h
      subst h
      obtain ⟨h1, h2⟩ := lastIx_some hr
      rw [h2]
      exact ⟨by simp; omega, by simp⟩
    | none =>
      rw [hr] at h
      have h2 : rowLook r i = none := lastIx_none hr
      rw [h2]
      simp only at h
      split at h
      · injection h with h; subst h
        rename_i hx
        exact ⟨by simp, by simp [hx]⟩
      · cases h
where
  lastIx_none : ∀ {l : List (Nat × By)} {i : Nat}, lastIx l i = none → rowLook l i = none
  | [], _, _ => rfl
  | x :: r, i, h => by
    rw [lastIx] at h
    rw [rowLook]
    cases hr : lastIx r i with
    | some k => rw [hr] at h; cases h
    | none =>
      rw [hr] at h
      rw [lastIx_none hr]
      simp only at h ⊢
      split at h
      · cases h
      · rename_i hx; simp [hx]
theorem lastIx_no {l : List (Nat × By)} {i : Nat} (h : lastIx l i = none) : rowLook l i = none := lastIx_some.lastIx_none h
theorem look_len {d : Dk} (h : d.Ok) {i : Nat} (hi : i < d.dur.length) : (d.look i).length = d.size := by
  unfold Dk.look
  cases hr : lastIx d.row i with
  | some j =>
    obtain ⟨h1, h2⟩ := lastIx_some hr
    rw [h2]
    exact (h.waits (d.row.getD j (0, [])) (by rw [List.getD_eq_getElem?_getD, List.getElem?_eq_getElem h1]; exact List.getElem_mem h1)).2
  | none =>
    rw [lastIx_no hr]
    exact h.each (d.dur.getD i []) (by rw [List.getD_eq_getElem?_getD, List.getElem?_eq_getElem hi]; exact List.getElem_mem hi)
theorem slice_zero (w : World) : (zeroValue 51).run Tryz.prog w = .ok (.slice none 0 0) w := by kernel_rfl
set_option maxRecDepth 100000 in
set_option maxHeartbeats 2000000 in
theorem Read_bad {p : Nat} {d : Dk} {S : Nat → Prop} {w : World} {q : DkP} (h : DkLies S w p d q) (at_ : Int) (hb : d.bad at_ = true) : Calls Tryz.prog 191 #[.pointer (some ⟨p, 0, none⟩), .int .i64 at_] w (RdD [] 50 w) := by
  have HN := Lib.hid (none_yes h at_ hb)
  clear h hb
  go_enter Tryz.func191, Tryz.ntmps191
  go_wp2_with fail
  refine HN.out.mono ?_
  rintro e w1 ⟨rfl, hw⟩
  rw [hw]
  clear hw w1
  go_wp2_with fail
  go_ret2
  exact ⟨none, 0, rfl, fun h => absurd rfl h, Nat.le_refl _, Below.refl _ _⟩
set_option maxRecDepth 100000 in
set_option maxHeartbeats 2000000 in
theorem Read_new {p : Nat} {d : Dk} {S : Nat → Prop} {w : World} {q : DkP} (h : DkLies S w p d q) (i j : Nat) (hi : i < d.dur.length) (hj : lastIx d.row i = some j) : Calls Tryz.prog 191 #[.pointer (some ⟨p, 0, none⟩), .int .i64 i] w (RdD (d.look i) 0 w) := by
  have hb : d.bad i = false := by simp [Dk.bad]; omega
  have HN := Lib.hid (none_no h i hb)
  have x3 : w.cell? ⟨p, 3, none⟩ = some (.map (some q.mb)) := h.own.cell 3
  have hv : newV d q i = some (.slice (some ⟨q.wg j, 0, none⟩) d.size (q.wc j)) := by simp [newV, hj]
  obtain ⟨hjl, hlk⟩ := lastIx_some hj
  have hlook : d.look i = (d.row.getD j (0, [])).2 := by unfold Dk.look; rw [hlk]; rfl
  have hll := look_len h.ok hi
  have hC := Oc.BClone_in (d.look i) (some ⟨q.wg j, 0, none⟩) (q.wc j) w (by rw [hlook]; exact (h.waits j hjl).1.bs) (okA_some _ _) (by rw [hll]; have := h.ok.size; omega)
  rw [hll] at hC
  have HC := Lib.hid hC; have HM := Lib.hid h.newest; have HV := Lib.hid hv; have HL := Lib.hid hll
  have hi0 : (i : Int) < 9223372036854775808 := by have := h.ok.some; omega
  have hwf : (Lit.int .i64 (i : Int)).wf = true := Go.WalkArith.wf_i64 ⟨by omega, by omega⟩
  have HW := Lib.hid hwf
  clear h hb hv hC hll hlook hlk hjl hwf
  go_enter Tryz.func191, Tryz.ntmps191
  go_wp2_with fail
  refine HN.out.mono ?_
  rintro e w1 ⟨rfl, hw⟩
  rw [hw]
  clear hw w1
  go_wp2_with (refine wpList_lookup_v rfl (.tmp 19) (.tmp 20) 182 rfl 3 51 .i64 Tryz.underlying3 Tryz.underlying182 (.slice none 0 0) (slice_zero w) q.mb q.mn (newV d q) rfl HM.out (i : Int) rfl HW.out ?_; rw [HV.out])
  refine HC.out.mono ?_
  rintro e w1 ⟨A, c, he, h1, h2, _, _, h3⟩
  rw [HL.out] at he
  subst he
  have hf : RdD (d.look i) 0 w (.returned (.tuple #[.slice A d.size c, .int .i64 0])) w1 := ⟨A, c, by rw [HL.out], h1, h2, h3⟩
  have HF := Lib.hid hf
  clear h1 h2 h3 hf HC
  go_wp2_with fail
  go_ret2
  exact HF.out
theorem row1_cell {S : Nat → Prop} {w : World} {e : TypeId} {n g cap : Nat} {c : Nat → List Value} (h : RowIn S w e 1 (.slice (some ⟨g, 0, none⟩) n cap) n c) (hc : ∀ i, (c i).length = 1) {i : Nat} (hi : i < n) {v : Value} (hv : c i = [v]) : w.cell? ⟨g, i, none⟩ = some v := by
  have := h.range hc hi 0 v (by rw [hv]; rfl)
  simpa using this
set_option maxRecDepth 100000 in
set_option maxHeartbeats 2000000 in
theorem Read_old {p : Nat} {d : Dk} {S : Nat → Prop} {w : World} {q : DkP} (h : DkLies S w p d q) (i : Nat) (hi : i < d.dur.length) (hj : lastIx d.row i = none) : Calls Tryz.prog 191 #[.pointer (some ⟨p, 0, none⟩), .int .i64 i] w (RdD (d.look i) 0 w) := by
  have hb : d.bad i = false := by simp [Dk.bad]; omega
  have HN := Lib.hid (none_no h i hb)
  have x3 : w.cell? ⟨p, 3, none⟩ = some (.map (some q.mb)) := h.own.cell 3
  have x1 : w.cell? ⟨p, 1, none⟩ = some (.slice (some ⟨q.gd, 0, none⟩) d.dur.length q.cd) := h.own.cell 1
  have y0 : w.cell? ⟨q.gd, i, none⟩ = some (.slice (some ⟨q.ad i, 0, none⟩) d.size (q.cp i)) := row1_cell h.dur (fun _ => rfl) hi rfl
  have hv : newV d q i = none := by simp [newV, hj]
  have hlook : d.look i = d.dur.getD i [] := by unfold Dk.look; rw [lastIx_no hj]; rfl
  have hll := look_len h.ok hi
  have hC := Oc.BClone_in (d.look i) (some ⟨q.ad i, 0, none⟩) (q.cp i) w (by rw [hlook]; exact (h.each i hi).1.bs) (okA_some _ _) (by rw [hll]; have := h.ok.size; omega)
  rw [hll] at hC
  have HC := Lib.hid hC; have HM := Lib.hid h.newest; have HV := Lib.hid hv; have HL := Lib.hid hll
  have hi0 : (i : Int) < (d.dur.length : Int) := by omega
  have hi1 : (0 : Int) ≤ (i : Int) := by omega
  have hwf : (Lit.int .i64 (i : Int)).wf = true := Go.WalkArith.wf_i64 ⟨by omega, by have := h.ok.some; omega⟩
  have HW := Lib.hid hwf
  clear h hb hv hC hll hlook hwf
  go_enter Tryz.func191, Tryz.ntmps191
  go_wp2_with fail
  refine HN.out.mono ?_
  rintro e w1 ⟨rfl, hw⟩
  rw [hw]
  clear hw w1
  go_wp2_with (refine wpList_lookup_v rfl (.tmp 19) (.tmp 20) 182 rfl 3 51 .i64 Tryz.underlying3 Tryz.underlying182 (.slice none 0 0) (slice_zero w) q.mb q.mn (newV d q) rfl HM.out (i : Int) rfl HW.out ?_; rw [HV.out])
  refine HC.out.mono ?_
  rintro e w1 ⟨A, c, he, h1, h2, _, _, h3⟩
  rw [HL.out] at he
  subst he
  have hf : RdD (d.look i) 0 w (.returned (.tuple #[.slice A d.size c, .int .i64 0])) w1 := ⟨A, c, by rw [HL.out], h1, h2, h3⟩
  have HF := Lib.hid hf
  clear h1 h2 h3 hf HC
  go_wp2_with fail
  go_ret2
  exact HF.out
theorem Read_in {p : Nat} {d : Dk} {S : Nat → Prop} {w : World} (h : DkIn p d S w) (at_ : Int) : Calls Tryz.prog 191 #[.pointer (some ⟨p, 0, none⟩), .int .i64 at_] w (RdD (d.read at_).2 (d.read at_).1 w) := by
  obtain ⟨q, h⟩ := h
  cases hb : d.bad at_ with
  | true => rw [Dk.read, if_pos hb]; exact Read_bad h at_ hb
  | false =>
    rw [Dk.read, if_neg (by rw [hb]; simp)]
    obtain ⟨i, rfl⟩ : ∃ i : Nat, at_ = i := ⟨at_.toNat, by simp only [Dk.bad, Bool.or_eq_false_iff, decide_eq_false_iff_not] at hb; omega⟩
    have hi : i < d.dur.length := by simp only [Dk.bad, Bool.or_eq_false_iff, decide_eq_false_iff_not] at hb; omega
    cases hj : lastIx d.row i with
    | some j => exact Read_new h i j hi hj
    | none => exact Read_old h i hi hj

end Go.Proofs.YtbnkanehjnepbaaGreatDoor.En
end

/- 'm[i], .. = v, ..': a map's entry is looked up, and stored into behind other things. No program in sight. -/
section
set_option linter.unusedVariables false
set_option linter.unusedSimpArgs false
namespace Go.Proofs.YtbnkanehjnepbaaGreatDoor
open Go.RowKit Go.Maps
open Go.MapKept (Stamped)

theorem heap_setBlock (w : World) {b : Nat} {es : Array MapEntry} {c : Nat} {o' : Obj} (h : w.heap[b]? = some (.map es c)) : (ChangeMaps.setBlock w b o').heap[b]? = some o' := ChangeMaps.heap_setBlock_same h o'
theorem MapV.entry {P : Program} {k e t : TypeId} {q : IntKind} {w : World} {b n : Nat} {φ : Int → Option Value} (h : MapV P k q w b n φ) (hk : P.underlying k = some (.int q)) (ht : P.underlying t = some (.map k e)) {z : Value} (hz : ∀ u : World, (zeroValue e).run P u = .ok z u) (hn : n < maxLen) {i : Int} (hi : (Lit.int q i).wf = true) :
    ∃ (v0 : Value) (st : Int) (w1 : World), (Instr.mapEntry t (.map (some b)) (.int q i)).run P w = .ok (.tuple #[v0, .int .i64 st]) w1 ∧ w.grownBy w1 (some b) ∧ w1.heap.size = w.heap.size ∧
      ∀ (w2 : World) (v : Value), w2.heap[b]? = w1.heap[b]? → ∃ w3, (Instr.entryStore t (.map (some b)) (.int .i64 st) v).run P w2 = .ok () w3 ∧ MapV P k q w3 b (if (φ i).isSome then n else n + 1) (vput φ i (some v)) ∧ w2.grownBy w3 (some b) ∧ w3.heap.size = w2.heap.size := by
  have hput := fun v => h.put hk ht hn hi (v := v)
  obtain ⟨D, ⟨es, clock, hb, F, hs, _⟩, _⟩ := h
  have K := int_keyed hk
  have hkey := keyOf_int_mk hk hi
  obtain ⟨s1, s2, _⟩ := F.stamped
  have hgr : ∀ (W : World) (es0 : Array MapEntry) (c0 : Nat) (o' : Obj), W.heap[b]? = some (.map es0 c0) → W.grownBy (ChangeMaps.setBlock W b o') (some b) ∧ (ChangeMaps.setBlock W b o').heap.size = W.heap.size := fun W es0 c0 o' hW =>
    ⟨⟨rfl, rfl, rfl, by simp [ChangeMaps.setBlock], fun j _ hj => ChangeMaps.heap_setBlock_other hW _ (fun e => hj (by rw [e]))⟩, by simp [ChangeMaps.setBlock]⟩
  have hfin : ∀ (st : Nat) (es1 : Array MapEntry) (c1 : Nat), (∀ (W : World) (v : Value), W.heap[b]? = some (.map es1 c1) → ∃ es' c', (Instr.entryStore t (.map (some b)) (.int .i64 (st : Int)) v).run P W = .ok () (ChangeMaps.setBlock W b (.map es' c')) ∧ (Instr.mapUpdate t (.map (some b)) (.int q i) v).run P w = .ok () (ChangeMaps.setBlock w b (.map es' c'))) →
      ∀ (w2 : World) (v : Value), w2.heap[b]? = (ChangeMaps.setBlock w b (.map es1 c1)).heap[b]? → ∃ w3, (Instr.entryStore t (.map (some b)) (.int .i64 (st : Int)) v).run P w2 = .ok () w3 ∧ MapV P k q w3 b (if (φ i).isSome then n else n + 1) (vput φ i (some v)) ∧ w2.grownBy w3 (some b) ∧ w3.heap.size = w2.heap.size := by
    intro st es1 c1 hst w2 v hw2
    have hw2' : w2.heap[b]? = some (.map es1 c1) := hw2.trans (heap_setBlock w hb)
    obtain ⟨es', c', r1, r2⟩ := hst w2 v hw2'
    obtain ⟨w', u1, u2, _⟩ := hput v
    rw [r2] at u1
    injection u1 with _ u1
    subst u1
    obtain ⟨g1, g2⟩ := hgr w2 _ _ (.map es' c') hw2'
    exact ⟨_, r1, u2.same ((heap_setBlock w2 hw2').trans (heap_setBlock w hb).symm), g1, g2⟩
  rcases K.find w hkey es.toList F.keys with ⟨h1, h2⟩ | ⟨j, e0, h1, h2, h3⟩
  · refine ⟨z, (clock : Int), ChangeMaps.setBlock w b (.map (es.push ⟨.int q i, z, clock⟩) (clock + 1)), ?_, (hgr w _ _ _ hb).1, (hgr w _ _ _ hb).2, hfin clock _ _ fun W v hW => ⟨es.push ⟨.int q i, v, clock⟩, clock + 1, ?_, ?_⟩⟩
    · simp [Instr.mapEntry, run_underlying ht, MapKept.run_getObj_map hb, K.check w false hkey, h1, hz, MapKept.run_setObj_map _ hb, Result.andThen, ChangeMaps.setBlock, goInt]
    · have hidx : (es.push ⟨.int q i, z, clock⟩).findIdx? (fun e => ((e.born : Nat) : Int) == ((clock : Nat) : Int)) = some es.size := by
        rw [WideElems.findIdx_arr]
        refine WideElems.findIdx_born (j := es.size) (e0 := ⟨.int q i, z, clock⟩) ?_ (by simp)
        rw [Array.toList_push, List.map_append]
        refine List.nodup_append.2 ⟨s2, by simp, fun a ha c hc e1 => ?_⟩
        obtain ⟨x, hx, rfl⟩ := List.mem_map.1 ha
        have := s1 x hx
        simp at hc
        omega
      have hmod : (es.push ⟨.int q i, z, clock⟩).modify es.size (fun e => { e with val := v }) = es.push ⟨.int q i, v, clock⟩ := by
        apply Array.ext'
        rw [Array.toList_modify, Array.toList_push, Array.toList_push, ← Array.length_toList, WideElems.modify_last]
      simp [Instr.entryStore, MapKept.run_getObj_map hW, asInt, asIntOf, hidx, hmod, MapKept.run_setObj_map _ hW, Result.andThen, ChangeMaps.setBlock]
    · simp [Instr.mapUpdate, run_underlying ht, MapKept.run_getObj_map hb, K.check w false hkey, h1, MapKept.run_setObj_map _ hb, Result.andThen, ChangeMaps.setBlock]
  · have hj : es[j]? = some e0 := by simpa using h2
    have hmodify : ∀ f : MapEntry → MapEntry, (es.modify j f).toList = es.toList.set j (f e0) := fun f => by
      rw [Array.toList_modify]
      exact Go.ChangeMaps.modify_eq_set _ _ _ _ h2
    have hsame : es.modify j (fun e => { e with key := .int q i }) = es := by
      apply Array.ext'
      rw [hmodify]
      have : ({ e0 with key := .int q i } : MapEntry) = e0 := by rw [← h3]
      rw [this]
      exact WideElems.set_self _ _ _ h2
    refine ⟨e0.val, (e0.born : Int), ChangeMaps.setBlock w b (.map es clock), ?_, (hgr w _ _ _ hb).1, (hgr w _ _ _ hb).2, hfin e0.born _ _ fun W v hW => ⟨es.modify j (fun e' => { e' with key := .int q i, val := v }), clock, ?_, ?_⟩⟩
    · simp [Instr.mapEntry, run_underlying ht, MapKept.run_getObj_map hb, K.check w false hkey, h1, hj, h3, K.stays w hkey, hsame, MapKept.run_setObj_map _ hb, Result.andThen, ChangeMaps.setBlock, goInt]
    · have hidx : es.findIdx? (fun e => ((e.born : Nat) : Int) == ((e0.born : Nat) : Int)) = some j := by
        rw [WideElems.findIdx_arr]
        exact WideElems.findIdx_born s2 h2
      have hmod : es.modify j (fun e => { e with val := v }) = es.modify j (fun e' => { e' with key := .int q i, val := v }) := by
        apply Array.ext'
        rw [hmodify, hmodify, ← h3]
      simp [Instr.entryStore, MapKept.run_getObj_map hW, asInt, asIntOf, hidx, hmod, MapKept.run_setObj_map _ hW, Result.andThen, ChangeMaps.setBlock]
    · simp [Instr.mapUpdate, run_underlying ht, MapKept.run_getObj_map hb, K.check w false hkey, h1, hj, h3, K.stays w hkey, MapKept.run_setObj_map _ hb, Result.andThen, ChangeMaps.setBlock]

theorem wp_mapEntry {P : Program} {w w1 : World} {o : Oper} {a : Act} {K : Act → World → Prop} {Q : Exit → Act → World → Prop} (m x : Operand) (t : TypeId) (hop : o.op = Op.mapEntry t m x) {mv xv v : Value} (hm : a.eval m = mv) (hx : a.eval x = xv)
    (hrun : (Instr.mapEntry t mv xv).run P w = .ok v w1) (hK : K (a.put o.dst v) w1) : Oper.wp P o a w K Q := by
  unfold Oper.wp execOp
  simp only [hop, Sem.run_bind, Sem.run_pure, Result.andThen_ok, hm, hx, hrun]
  exact hK
theorem wp_entryStore {P : Program} {w w1 : World} {o : Oper} {a : Act} {K : Act → World → Prop} {Q : Exit → Act → World → Prop} (m x y : Operand) (t : TypeId) (hop : o.op = Op.entryStore t m x y) {mv xv yv : Value} (hm : a.eval m = mv) (hx : a.eval x = xv) (hy : a.eval y = yv)
    (hrun : (Instr.entryStore t mv xv yv).run P w = .ok () w1) (hK : K (a.put o.dst undef) w1) : Oper.wp P o a w K Q := by
  unfold Oper.wp execOp
  simp only [hop, Sem.run_bind, Sem.run_pure, Result.andThen_ok, hm, hx, hy, hrun]
  exact hK

end Go.Proofs.YtbnkanehjnepbaaGreatDoor
end

/- Layer 5: a sector is written. -/
section
set_option linter.unusedVariables false
set_option linter.unusedSimpArgs false
namespace Go.Proofs.YtbnkanehjnepbaaGreatDoor.En
open Go.RowKit
open Go.Proofs.YtbnkanehjnepbaaGreatDoor.Oc (Bs bytesV byteV okA okA_some okA_none ClOut)

set_option maxRecDepth 100000 in
set_option maxHeartbeats 2000000 in
theorem Write_bad {p : Nat} {d : Dk} {S : Nat → Prop} {w : World} {q : DkP} (h : DkLies S w p d q) (at_ : Int) (hb : d.bad at_ = true) (v : Value) : Calls Tryz.prog 193 #[.pointer (some ⟨p, 0, none⟩), .int .i64 at_, v] w fun e w' => e = .returned (.int .i64 50) ∧ w' = w := by
  have HN := Lib.hid (none_yes h at_ hb)
  clear h hb
  go_enter Tryz.func193, Tryz.ntmps193
  go_wp2_with fail
  refine HN.out.mono ?_
  rintro e w1 ⟨rfl, hw⟩
  rw [hw]
  clear hw w1
  go_wp2_with fail
  go_ret
  exact ⟨rfl, rfl⟩
set_option maxRecDepth 100000 in
set_option maxHeartbeats 2000000 in
theorem Write_long {p : Nat} {d : Dk} {S : Nat → Prop} {w : World} {q : DkP} (h : DkLies S w p d q) (at_ : Int) (hb : d.bad at_ = false) (A : Option Addr) (n c : Nat) (hn : n ≠ d.size) : Calls Tryz.prog 193 #[.pointer (some ⟨p, 0, none⟩), .int .i64 at_, .slice A n c] w fun e w' => e = .returned (.int .i64 3) ∧ w' = w := by
  have HN := Lib.hid (none_no h at_ hb)
  have x0 : w.cell? ⟨p, 0, none⟩ = some (.int .i64 d.size) := h.own.cell 0
  have hq : ((n : Int) == (d.size : Int)) = false := by simp; omega
  have hq2 : (n == d.size) = false := by simp; omega
  clear h hb
  go_enter Tryz.func193, Tryz.ntmps193
  go_wp2_with fail
  refine HN.out.mono ?_
  rintro e w1 ⟨rfl, hw⟩
  rw [hw]
  clear hw w1
  go_wp2_with fail
  go_ret
  exact ⟨rfl, rfl⟩
theorem waits_info : (Tryz.prog.info? 326).map (fun i => (i.zero, i.size, i.bytes)) = some (some (.agg #[.int .i64 0, .slice none 0 0]), 2, 32) := by kernel_rfl
theorem _root_.Go.Proofs.YtbnkanehjnepbaaGreatDoor.RowIn.ne_obj {S : Nat → Prop} {w : World} {e : TypeId} {sz n k g : Nat} {v : Value} {c : Nat → List Value} (h : RowIn S w e sz v n c) (hg : v.ownBlock = some g) {o : Obj} (ho : w.heap[k]? = some o) (hne : ∀ cur, o ≠ .cells cur e (0, 0)) : k ≠ g := by
  rintro rfl
  rcases h.own.2 with ⟨hv, _⟩ | ⟨g', cap', cur, hv, _, hh, _⟩
  · subst hv; simp [Value.ownBlock] at hg
  · subst hv
    have e1 : g' = k := by simpa [Value.ownBlock] using hg
    subst e1
    rw [hh] at ho
    injection ho with ho
    exact hne cur ho.symm
theorem _root_.Go.Proofs.YtbnkanehjnepbaaGreatDoor.MapV.obj {P : Program} {k : TypeId} {q : IntKind} {w : World} {b n : Nat} {φ : Int → Option Value} (h : MapV P k q w b n φ) : ∃ es c, w.heap[b]? = some (.map es c) := by
  obtain ⟨D, ⟨es, clock, hb, _⟩, _⟩ := h; exact ⟨es, clock, hb⟩
theorem _root_.Go.Proofs.YtbnkanehjnepbaaGreatDoor.MapV.ne_arr {P : Program} {k t : TypeId} {q : IntKind} {w : World} {b n g : Nat} {φ : Int → Option Value} {cs : Array Value} (h : MapV P k q w b n φ) (ha : Arr w g t cs) : g ≠ b := by
  rintro rfl
  obtain ⟨es, c, hb⟩ := h.obj
  rw [Arr, hb] at ha
  injection ha with ha
  cases ha
theorem _root_.Go.Proofs.YtbnkanehjnepbaaGreatDoor.RowIn.keep1 {S : Nat → Prop} {w w' : World} {e : TypeId} {sz n g cap : Nat} {c : Nat → List Value} (h : RowIn S w e sz (.slice (some ⟨g, 0, none⟩) n cap) n c) (hk : w'.heap[g]? = w.heap[g]?) : RowIn S w' e sz (.slice (some ⟨g, 0, none⟩) n cap) n c :=
  ⟨own_same h.own fun g' hg => by
    have : g = g' := by simpa [Value.ownBlock] using hg
    subst this; exact hk, h.block⟩
theorem lastIx_snoc (i j : Nat) (b : By) : ∀ l, lastIx (l ++ [(j, b)]) i = if j = i then some l.length else lastIx l i
  | [] => by by_cases h : j = i <;> simp [lastIx, h]
  | x :: r => by
    rw [List.cons_append, lastIx, lastIx_snoc i j b r]
    by_cases h : j = i
    · rw [if_pos h, if_pos h]; simp
    · rw [if_neg h, if_neg h, lastIx]
/-- a disk behind a write -/
theorem DkLies.write {S T : Nat → Prop} {w w' : World} {p i gb cb ga ca : Nat} {d : Dk} {q : DkP} {b : By} (h : DkLies S w p d q) (hi : i < d.dur.length) (hl : b.length = d.size) (hcb : d.size ≤ cb) (hgb : Blk w' 5 gb b) (hnew : ¬ S gb) (hgT : T gb)
    (hk : ∀ k, S k → k ≠ p → k ≠ q.mb → q.rv.ownBlock ≠ some k → w'.heap[k]? = w.heap[k]?)
    (hown : Arr w' p 185 #[.int .i64 d.size, .slice (some ⟨q.gd, 0, none⟩) d.dur.length q.cd, .slice (some ⟨ga, 0, none⟩) (d.row.length + 1) ca, .map (some q.mb)])
    (hrow : RowIn T w' 326 2 (.slice (some ⟨ga, 0, none⟩) (d.row.length + 1) ca) (d.row.length + 1) (setL (rowC d q) d.row.length [.int .i64 i, .slice (some ⟨gb, 0, none⟩) d.size cb]))
    (hm : MapV Tryz.prog 3 .i64 w' q.mb (if (newV d q i).isSome then q.mn else q.mn + 1) (vput (newV d q) i (some (.slice (some ⟨gb, 0, none⟩) d.size cb)))) (hST : ∀ k, S k → T k) (hT : ∀ k, T k → k < w'.heap.size) :
    DkIn p { d with row := d.row ++ [(i, b)] } T w' := by
  have hlen : (d.row ++ [(i, b)]).length = d.row.length + 1 := by simp
  have hgetl : ∀ j, j < d.row.length → (d.row ++ [(i, b)]).getD j (0, []) = d.row.getD j (0, []) := fun j hj => by
    rw [List.getD_eq_getElem?_getD, List.getD_eq_getElem?_getD, List.getElem?_append_left hj]
  have hgetr : (d.row ++ [(i, b)]).getD d.row.length (0, []) = (i, b) := by
    rw [List.getD_eq_getElem?_getD, List.getElem?_append_right (Nat.le_refl _)]; simp
  have hrc : setL (rowC d q) d.row.length [.int .i64 i, .slice (some ⟨gb, 0, none⟩) d.size cb] = fun j => if j = d.row.length then [.int .i64 i, .slice (some ⟨gb, 0, none⟩) d.size cb] else rowC d q j := rfl
  have obj : ∀ {k : Nat} {o : Obj}, w.heap[k]? = some o → (∀ cur, o ≠ .cells cur 326 (0, 0)) → q.rv.ownBlock ≠ some k := fun ho hne e => h.row.ne_obj e ho hne rfl
  have hap := h.apart
  have u8ne : ∀ {k : Nat} {l : By}, Blk w 5 k l → k ≠ p ∧ k ≠ q.mb ∧ q.rv.ownBlock ≠ some k := fun {k l} hb => by
    obtain ⟨cur, h1, _⟩ := hb
    refine ⟨?_, ?_, obj h1 (fun c e => by injection e with _ e2; revert e2; decide)⟩
    · rintro rfl
      have := h.own
      rw [Arr] at this
      rw [this] at h1
      injection h1 with h1
      injection h1 with _ h2
      revert h2; decide
    · rintro rfl
      obtain ⟨D, ⟨es, clock, hb, _⟩, _⟩ := h.newest
      rw [hb] at h1
      injection h1 with h1
      cases h1
  have hgdk : w'.heap[q.gd]? = w.heap[q.gd]? := by
    have hS : S q.gd := h.dur.block q.gd rfl
    rcases h.dur.own.2 with ⟨hv, _⟩ | ⟨g', cap', cur, hv, _, hh, _⟩
    · cases hv
    · injection hv with e1 _ _
      injection e1 with e1
      injection e1 with e1
      subst e1
      refine hk _ hS ?_ ?_ (obj hh (fun c e => by injection e with _ e2; revert e2; decide))
      · intro e
        have := h.own
        rw [Arr, ← e] at this
        rw [this] at hh
        injection hh with hh
        injection hh with _ h2
        revert h2; decide
      · intro e
        obtain ⟨D, ⟨es, clock, hb, _⟩, _⟩ := h.newest
        rw [← e] at hb
        rw [hb] at hh
        injection hh with hh
        cases hh
  refine ⟨{ q with rv := .slice (some ⟨ga, 0, none⟩) (d.row.length + 1) ca, mn := if (newV d q i).isSome then q.mn else q.mn + 1, wg := setL q.wg d.row.length gb, wc := setL q.wc d.row.length cb }, hown, (h.dur.keep1 hgdk).mono fun g hg _ => hST g hg, fun j hj => ?_, ?_, fun j hj => ?_, ?_, ⟨h.ok.size, h.ok.some, h.ok.each, fun x hx => ?_⟩, ⟨hST _ h.foot.1, hST _ h.foot.2.1, fun j hj => hST _ (h.foot.2.2.1 j hj), fun j hj => ?_⟩, ⟨hap.1, fun a j ha hj => ?_⟩, hT, ?_⟩
  · obtain ⟨n1, n2, n3⟩ := u8ne (h.each j hj).1
    exact ⟨(h.each j hj).1.same (hk _ (h.foot.2.2.1 j hj) n1 n2 n3), (h.each j hj).2⟩
  · show RowIn T w' _ 2 _ (d.row ++ [(i, b)]).length _
    rw [hlen]
    refine ⟨?_, hrow.block⟩
    have := hrow.own
    rw [flat_congr (d := rowC { d with row := d.row ++ [(i, b)] } { q with rv := .slice (some ⟨ga, 0, none⟩) (d.row.length + 1) ca, mn := if (newV d q i).isSome then q.mn else q.mn + 1, wg := setL q.wg d.row.length gb, wc := setL q.wc d.row.length cb }) (fun j hj => ?_)] at this
    · exact this
    · unfold rowC
      by_cases e : j = d.row.length
      · subst e
        rw [setL_same, hgetr]
        show _ = [Value.int .i64 (i : Nat), Value.slice (some ⟨setL q.wg d.row.length gb d.row.length, 0, none⟩) d.size (setL q.wc d.row.length cb d.row.length)]
        rw [setL_same, setL_same]
      · rw [setL_other _ _ e, hgetl j (by omega)]
        show _ = [Value.int .i64 ((d.row.getD j (0, [])).1 : Nat), Value.slice (some ⟨setL q.wg d.row.length gb j, 0, none⟩) d.size (setL q.wc d.row.length cb j)]
        rw [setL_other _ _ e, setL_other _ _ e]
  · have hj' : j < d.row.length + 1 := by simpa using hj
    show Blk w' _ (setL q.wg d.row.length gb j) ((d.row ++ [(i, b)]).getD j (0, [])).2 ∧ d.size ≤ setL q.wc d.row.length cb j
    by_cases e : j = d.row.length
    · subst e; rw [setL_same, setL_same, hgetr]; exact ⟨hgb, hcb⟩
    · rw [setL_other _ _ e, setL_other _ _ e, hgetl j (by omega)]
      obtain ⟨n1, n2, n3⟩ := u8ne (h.waits j (by omega)).1
      exact ⟨(h.waits j (by omega)).1.same (hk _ (h.foot.2.2.2 j (by omega)) n1 n2 n3), (h.waits j (by omega)).2⟩
  · have hφ : vput (newV d q) i (some (.slice (some ⟨gb, 0, none⟩) d.size cb)) = newV { d with row := d.row ++ [(i, b)] } { q with rv := .slice (some ⟨ga, 0, none⟩) (d.row.length + 1) ca, mn := if (newV d q i).isSome then q.mn else q.mn + 1, wg := setL q.wg d.row.length gb, wc := setL q.wc d.row.length cb } := by
      funext z
      unfold vput newV
      by_cases ez : z = (i : Int)
      · subst ez
        rw [if_pos rfl, if_neg (by omega)]
        show _ = Option.map _ (lastIx (d.row ++ [(i, b)]) _)
        rw [lastIx_snoc, if_pos (show i = (i : Int).toNat by simp)]
        simp [setL_same]
      · rw [if_neg ez]
        by_cases z0 : z < 0
        · rw [if_pos z0, if_pos z0]
        · rw [if_neg z0, if_neg z0]
          show _ = Option.map _ (lastIx (d.row ++ [(i, b)]) _)
          rw [lastIx_snoc, if_neg (show ¬ i = z.toNat by omega)]
          cases hx : lastIx d.row z.toNat with
          | none => rfl
          | some j =>
            obtain ⟨h1, _⟩ := lastIx_some hx
            simp [setL_other _ _ (show j ≠ d.row.length by omega)]
    rw [← hφ]; exact hm
  · rcases List.mem_append.1 hx with hx | hx
    · exact h.ok.waits x hx
    · obtain rfl := List.mem_singleton.1 hx
      exact ⟨hi, hl⟩
  · have hj' : j < d.row.length + 1 := by simpa using hj
    show T (setL q.wg d.row.length gb j)
    by_cases e : j = d.row.length
    · subst e; rw [setL_same]; exact hgT
    · rw [setL_other _ _ e]; exact hST _ (h.foot.2.2.2 j (by omega))
  · have hj' : j < d.row.length + 1 := by simpa using hj
    show q.ad a ≠ setL q.wg d.row.length gb j
    by_cases e : j = d.row.length
    · subst e; rw [setL_same]; intro e2; exact hnew (e2 ▸ h.foot.2.2.1 a ha)
    · rw [setL_other _ _ e]; exact hap.2 a j ha (by omega)
  · show (if (newV d q i).isSome then q.mn else q.mn + 1) ≤ (d.row ++ [(i, b)]).length
    have := h.few
    rw [hlen]
    split <;> omega
def WrOut (S : Nat → Prop) (p : Nat) (d : Dk) (w : World) (e : Ending) (w' : World) : Prop := e = .returned (.int .i64 0) ∧ DkIn p d (Gr S w w') w' ∧ Tch S w w'
set_option maxRecDepth 100000 in
set_option maxHeartbeats 4000000 in
theorem Write_ok {p : Nat} {d : Dk} {S : Nat → Prop} {w : World} {q : DkP} (h : DkLies S w p d q) (i : Nat) (hi : i < d.dur.length) (b : By) (hl : b.length = d.size) (A : Option Addr) (c : Nat) (hB : Bs w A b) (hA : okA A) (hrow : d.row.length < 1000000) :
    Calls Tryz.prog 193 #[.pointer (some ⟨p, 0, none⟩), .int .i64 i, .slice A b.length c] w (WrOut S p { d with row := d.row ++ [(i, b)] } w) := by
  obtain ⟨i0, hi0, hz0, hz1, hz2⟩ := info_parts waits_info
  have hb : d.bad i = false := by simp [Dk.bad]; omega
  have HN := Lib.hid (none_no h i hb)
  have x0 : w.cell? ⟨p, 0, none⟩ = some (.int .i64 b.length) := by rw [hl]; exact h.own.cell 0
  have hne : b ≠ [] := by rintro rfl; have := h.ok.size; simp at hl; omega
  have HC := Lib.hid (Oc.BClone_in b A c w hB hA (by rw [hl]; have := h.ok.size; omega))
  have HH := Lib.hid h; have HNE := Lib.hid hne; have HLB := Lib.hid hl; have HLT := Lib.hid h.lt; have HWF := Lib.hid (Go.WalkArith.wf_i64 (n := (i : Int)) ⟨by omega, by have := h.ok.some; omega⟩)
  clear h hb hB hA hne hl
  go_enter Tryz.func193, Tryz.ntmps193
  go_wp2_with fail
  refine HN.out.mono ?_
  rintro e w1 ⟨rfl, hw⟩
  rw [hw]
  clear hw w1
  go_wp2_with fail
  refine HC.out.mono ?_
  rintro e w1 ⟨B, cb, rfl, h1, h2, _, _, h3⟩
  obtain ⟨gb, rfl, hgb, hblk⟩ := h1 HNE.out
  have HB1 := Lib.hid h3; have HGB := Lib.hid hgb; have HBLK := Lib.hid hblk; have HCB := Lib.hid h2
  clear h1 h2 h3 hgb hblk HC HN
  go_wp2_with fail
  obtain ⟨vb, hvb⟩ : ∃ vb, w1.heap.size = vb := ⟨_, rfl⟩
  obtain ⟨w2, hw2⟩ : ∃ w2, w1.alloc (.cells #[.int .i64 i, .slice (some ⟨gb, 0, none⟩) b.length cb] 326) = w2 := ⟨_, rfl⟩
  have hb12 : Below w1.heap.size w1 w2 := by rw [← hw2]; exact ext_alloc (Below.refl _ _) _
  have ha2 : Arr w2 vb 326 #[.int .i64 i, .slice (some ⟨gb, 0, none⟩) b.length cb] := by rw [← hw2, ← hvb]; exact Arr.fresh w1 _ _
  have hz2s : w2.heap.size = vb + 1 := by rw [← hw2, ← hvb]; simp
  have hbw2 : Below w.heap.size w w2 := ext_trans HB1.out hb12
  have hD2 : DkLies S w2 p d q := by
    have := HH.out
    have hz := hbw2.size
    have hkk : ∀ k, S k → w2.heap[k]? = w.heap[k]? := fun k hk => hbw2.block k (this.lt k hk)
    exact ⟨(hkk p this.foot.1).trans this.own, this.dur.same fun g hg _ => hkk g hg, fun i hi => ⟨(this.each i hi).1.same (hkk _ (this.foot.2.2.1 i hi)), (this.each i hi).2⟩, this.row.same fun g hg _ => hkk g hg, fun i hi => ⟨(this.waits i hi).1.same (hkk _ (this.foot.2.2.2 i hi)), (this.waits i hi).2⟩, this.newest.same (hkk _ this.foot.2.1), this.ok, this.foot, this.apart, fun k hk => Nat.lt_of_lt_of_le (this.lt k hk) hz, this.few⟩
  have hblk2 : Blk w2 5 gb b := HBLK.out.same (hb12.block gb HBLK.out.lt)
  rw [hw2, hvb]
  have hS2 : w2.drew.cell? ⟨p, 3, none⟩ = some (.map (some q.mb)) ∧ w2.drew.cell? ⟨vb, 0, none⟩ = some (.int .i64 i) ∧ w2.drew.cell? ⟨vb, 1, none⟩ = some (.slice (some ⟨gb, 0, none⟩) b.length cb) := ⟨hD2.own.cell 3, ha2.cell 0, ha2.cell 1⟩
  have z2 : w2.drew.cell? ⟨p, 2, none⟩ = some q.rv := hD2.own.cell 2
  have hbx : Below w2.heap.size w2 (w2.drew.alloc (.cells #[.int .i64 i, .slice (some ⟨gb, 0, none⟩) b.length cb] 326)) := ext_alloc (ext_drew (Below.refl _ _)) _
  have hpl2 : p < w2.heap.size := hD2.own.lt
  have hS3 : (w2.drew.alloc (.cells #[.int .i64 i, .slice (some ⟨gb, 0, none⟩) b.length cb] 326)).cell? ⟨p, 3, none⟩ = some (.map (some q.mb)) ∧ (w2.drew.alloc (.cells #[.int .i64 i, .slice (some ⟨gb, 0, none⟩) b.length cb] 326)).cell? ⟨vb, 0, none⟩ = some (.int .i64 i) ∧ (w2.drew.alloc (.cells #[.int .i64 i, .slice (some ⟨gb, 0, none⟩) b.length cb] 326)).cell? ⟨vb, 1, none⟩ = some (.slice (some ⟨gb, 0, none⟩) b.length cb) := ⟨(hbx.cell (p := ⟨p, 3, none⟩) hpl2).trans hS2.1, (hbx.cell (p := ⟨vb, 0, none⟩) (show vb < w2.heap.size by omega)).trans hS2.2.1, (hbx.cell (p := ⟨vb, 1, none⟩) (show vb < w2.heap.size by omega)).trans hS2.2.2⟩
  have z3 : (w2.drew.alloc (.cells #[.int .i64 i, .slice (some ⟨gb, 0, none⟩) b.length cb] 326)).cell? ⟨p, 2, none⟩ = some q.rv := (hbx.cell (p := ⟨p, 2, none⟩) hpl2).trans z2
  have z4 : (w2.alloc (.cells #[.int .i64 i, .slice (some ⟨gb, 0, none⟩) b.length cb] 326)).cell? ⟨p, 2, none⟩ = some q.rv := z3
  have hr3 : RowIn S (w2.drew.alloc (.cells #[.int .i64 i, .slice (some ⟨gb, 0, none⟩) b.length cb] 326)) 326 2 q.rv d.row.length (rowC d q) := hD2.row.keep hbx
  have HS2 := Lib.hid hS2; have HS3 := Lib.hid hS3; have HD2 := Lib.hid hD2; have HBW2 := Lib.hid hbw2; have HBL2 := Lib.hid hblk2; have HVB := Lib.hid hz2s; have HR3 := Lib.hid hr3; have HBX := Lib.hid hbx
  have HA2 := Lib.hid ha2
  have HGV := Lib.hid (show gb < vb by rw [← hvb]; exact HBLK.out.lt)
  have HGW := Lib.hid (show w.heap.size ≤ vb by rw [← hvb]; exact HB1.out.size)
  clear hS2 hS3 hD2 hbw2 hblk2 hz2s ha2 hb12 hr3 hbx hpl2 hw2 hvb HB1 HBLK HH
  refine wp_region_held_drew (S := (fun w' => w'.cell? ⟨p, 3, none⟩ = some (.map (some q.mb)) ∧ w'.cell? ⟨vb, 0, none⟩ = some (.int .i64 i) ∧ w'.cell? ⟨vb, 1, none⟩ = some (.slice (some ⟨gb, 0, none⟩) b.length cb))) (by kernel_rfl) (by exact HS2.out) (fun hHeld => ?_)
  refine tky 0 (some 26) hHeld ?_
  try simp only [Act.put, List.setIfInBounds_toArray, List.set_cons_zero, List.set_cons_succ]
  refine tky 1 (some 27) hHeld ?_
  try simp only [Act.put, List.setIfInBounds_toArray, List.set_cons_zero, List.set_cons_succ]
  refine tky 2 (some 28) hHeld ?_
  try simp only [Act.put, List.setIfInBounds_toArray, List.set_cons_zero, List.set_cons_succ]
  refine tky 3 (some 29) hHeld ?_
  try simp only [Act.put, List.setIfInBounds_toArray, List.set_cons_zero, List.set_cons_succ]
  refine tky 4 (some 30) hHeld ?_
  try simp only [Act.put, List.setIfInBounds_toArray, List.set_cons_zero, List.set_cons_succ]
  refine tky 5 (some 31) hHeld ?_
  try simp only [Act.put, List.setIfInBounds_toArray, List.set_cons_zero, List.set_cons_succ]
  refine tky 6 (some 32) hHeld ?_
  try simp only [Act.put, List.setIfInBounds_toArray, List.set_cons_zero, List.set_cons_succ]
  refine tky 7 (some 33) hHeld ?_
  try simp only [Act.put, List.setIfInBounds_toArray, List.set_cons_zero, List.set_cons_succ]
  refine tky 8 (some 34) hHeld ?_
  try simp only [Act.put, List.setIfInBounds_toArray, List.set_cons_zero, List.set_cons_succ]
  refine tky 10 (some 36) hHeld ?_
  try simp only [Act.put, List.setIfInBounds_toArray, List.set_cons_zero, List.set_cons_succ]
  refine tky 13 (some 39) hHeld ?_
  try simp only [Act.put, List.setIfInBounds_toArray, List.set_cons_zero, List.set_cons_succ]
  refine tky 14 (some 40) hHeld ?_
  try simp only [Act.put, List.setIfInBounds_toArray, List.set_cons_zero, List.set_cons_succ]
  refine wpAnyH_ready (rs := [9, 11]) (by kernel_rfl) (by simp) ?_
  refine AllReadyH.cons rfl (fun K hK => ?_) (AllReadyH.cons rfl (fun K hK => ?_) AllReadyH.nil)
  · go_simp
    go_wp2_with fail
    refine hK.out _ _ (by exact HS2.out) (fun hHa => ?_)
    clear hK K
    try simp only [Act.put, List.setIfInBounds_toArray, List.set_cons_zero, List.set_cons_succ]
    refine wpAnyH_ready (rs := [11]) (by kernel_rfl) (by simp) ?_
    refine AllReadyH.cons rfl (fun K hK => ?_) AllReadyH.nil
    go_simp
    go_wp2_with fail
    refine hK.out _ _ (by exact HS3.out) (fun hHb => ?_)
    clear hK K
    try simp only [Act.put, List.setIfInBounds_toArray, List.set_cons_zero, List.set_cons_succ]
    refine wpAnyH_ready (rs := [12]) (by kernel_rfl) (by simp) ?_
    refine AllReadyH.cons rfl (fun K hK => ?_) AllReadyH.nil
    refine wp_append_elem _ (.tmp 35) (.tmp 37) 183 rfl 326 i0 (.agg #[.int .i64 0, .slice none 0 0]) 2 32 Tryz.underlying183 hi0 hz0 hz1 hz2 rfl (by decide) q.rv d.row.length (rowC d q) rfl HR3.out ⟨w2.heap.size, 0, none⟩ 1 [.int .i64 i, .slice (some ⟨gb, 0, none⟩) b.length cb] rfl rfl (news_any w2.drew _ _) (by intro u hu; simp at hu; rcases hu with rfl | rfl <;> rfl) (by unfold maxLen; omega) (by omega) ?_
    intro ga ca w4 hr4 hg4
    have hk4 : ∀ k, k < w2.heap.size → q.rv.ownBlock ≠ some k → w4.heap[k]? = w2.heap[k]? := fun k hk hne => (hg4.block k (Nat.lt_of_lt_of_le hk HBX.out.size) (fun e => hne e.symm)).trans (HBX.out.block k hk)
    have hp4 : Arr w4 p 185 #[.int .i64 d.size, .slice (some ⟨q.gd, 0, none⟩) d.dur.length q.cd, q.rv, .map (some q.mb)] := (hk4 p HD2.out.own.lt (fun e => HD2.out.row.ne_obj e HD2.out.own (fun c e => by injection e with _ e2; revert e2; decide) rfl)).trans HD2.out.own
    have hv4 : Arr w4 vb 326 #[.int .i64 i, .slice (some ⟨gb, 0, none⟩) b.length cb] := (hk4 vb (by have := HVB.out; omega) (fun e => by have := HLT.out vb (HD2.out.row.block vb e); have := HGW.out; omega)).trans HA2.out
    have hm4 : MapV Tryz.prog 3 .i64 w4 q.mb q.mn (newV d q) := HD2.out.newest.same (hk4 q.mb HD2.out.newest.lt (fun e => by obtain ⟨es, c, hb⟩ := HD2.out.newest.obj; exact HD2.out.row.ne_obj e hb (fun c e => by injection e) rfl))
    have hS4 : w4.cell? ⟨p, 3, none⟩ = some (.map (some q.mb)) ∧ w4.cell? ⟨vb, 0, none⟩ = some (.int .i64 i) ∧ w4.cell? ⟨vb, 1, none⟩ = some (.slice (some ⟨gb, 0, none⟩) b.length cb) := ⟨hp4.cell 3, hv4.cell 0, hv4.cell 1⟩
    have z5 : w4.cell? ⟨p, 2, none⟩ = some q.rv := hp4.cell 2
    have m5 := hp4.mark 2
    have hpv : p ≠ vb := fun e => by have := HLT.out p HD2.out.foot.1; have := HGW.out; omega
    have hp5 : Arr (w4.setCell ⟨p, 2, none⟩ (.slice (some ⟨ga, 0, none⟩) (d.row.length + 1) ca)) p 185 #[.int .i64 d.size, .slice (some ⟨q.gd, 0, none⟩) d.dur.length q.cd, .slice (some ⟨ga, 0, none⟩) (d.row.length + 1) ca, .map (some q.mb)] := by simpa using hp4.put 2 (.slice (some ⟨ga, 0, none⟩) (d.row.length + 1) ca)
    have hv5 := hv4.other (p := ⟨p, 2, none⟩) (fun e => hpv e.symm) (.slice (some ⟨ga, 0, none⟩) (d.row.length + 1) ca)
    have hS5 : (w4.setCell ⟨p, 2, none⟩ (.slice (some ⟨ga, 0, none⟩) (d.row.length + 1) ca)).cell? ⟨p, 3, none⟩ = some (.map (some q.mb)) ∧ (w4.setCell ⟨p, 2, none⟩ (.slice (some ⟨ga, 0, none⟩) (d.row.length + 1) ca)).cell? ⟨vb, 0, none⟩ = some (.int .i64 i) ∧ (w4.setCell ⟨p, 2, none⟩ (.slice (some ⟨ga, 0, none⟩) (d.row.length + 1) ca)).cell? ⟨vb, 1, none⟩ = some (.slice (some ⟨gb, 0, none⟩) b.length cb) := ⟨hp5.cell 3, hv5.cell 0, hv5.cell 1⟩
    have hmp : q.mb ≠ p := fun e => hm4.ne_arr hp4 e.symm
    have hm5 := hm4.same (w' := w4.setCell ⟨p, 2, none⟩ (.slice (some ⟨ga, 0, none⟩) (d.row.length + 1) ca)) (Below.heap_setCell w4 ⟨p, 2, none⟩ _ q.mb hmp)
    have hpa : p ≠ ga := hr4.ne_obj rfl hp4 (fun c e => by injection e with _ e2; revert e2; decide)
    have hr5 := hr4.put (q := ⟨p, 2, none⟩) (fun g e => (show ga = g by simpa [Value.ownBlock] using e) ▸ hpa) (.slice (some ⟨ga, 0, none⟩) (d.row.length + 1) ca)
    have hw4z := hg4.size
    have HR5 := Lib.hid hr5; have HG4 := Lib.hid hg4; have HK4 := Lib.hid hk4; have HP5 := Lib.hid hp5; have HV5 := Lib.hid hv5; have HM5 := Lib.hid hm5; have HS5 := Lib.hid hS5; have HMP := Lib.hid hmp; have HZ4 := Lib.hid hw4z
    clear hr4 hg4 hk4 hp4 hv4 hm4 hp5 hv5 hS5 hmp hm5 hr5 hpa hpv hw4z
    refine hK.out _ _ (by exact hS4) (fun hH12 => ?_)
    clear hK K
    try simp only [Act.put, List.setIfInBounds_toArray, List.set_cons_zero, List.set_cons_succ]
    refine tky 15 (some 41) hH12 ?_
    try simp only [Act.put, List.setIfInBounds_toArray, List.set_cons_zero, List.set_cons_succ]
    refine tky 16 (some 42) hH12 ?_
    try simp only [Act.put, List.setIfInBounds_toArray, List.set_cons_zero, List.set_cons_succ]
    refine wpAnyH_ready (rs := [17]) (by kernel_rfl) (by simp) ?_
    refine AllReadyH.cons rfl (fun K hK => ?_) AllReadyH.nil
    go_simp
    go_wp2_with fail
    refine hK.out _ _ (by exact HS5.out) (fun hH17 => ?_)
    clear hK K
    try simp only [Act.put, List.setIfInBounds_toArray, List.set_cons_zero, List.set_cons_succ]
    refine wpAnyH_ready (rs := [18]) (by kernel_rfl) (by simp) ?_
    refine AllReadyH.cons rfl (fun K hK => ?_) AllReadyH.nil
    obtain ⟨v0, st, w6, hrun6, hg6, hz6, hst⟩ := HM5.out.entry Tryz.underlying3 Tryz.underlying182 (fun u => slice_zero u) (show q.mn < maxLen by have := HD2.out.few; unfold maxLen; omega) (i := (i : Int)) HWF.out
    have hS6 : w6.cell? ⟨p, 3, none⟩ = some (.map (some q.mb)) ∧ w6.cell? ⟨vb, 0, none⟩ = some (.int .i64 i) ∧ w6.cell? ⟨vb, 1, none⟩ = some (.slice (some ⟨gb, 0, none⟩) b.length cb) := by
      have hp6 := HP5.out.grownTo hg6 (fun e => by injection e with e; exact HMP.out e)
      have hv6 := HV5.out.grownTo hg6 (fun e => by injection e with e; exact HM5.out.ne_arr HV5.out e.symm)
      exact ⟨hp6.cell 3, hv6.cell 0, hv6.cell 1⟩
    have HG6 := Lib.hid hg6; have HZ6 := Lib.hid hz6; have HST := Lib.hid hst
    clear hg6 hz6 hst
    refine wp_mapEntry (.tmp 30) (.tmp 31) 182 rfl rfl rfl hrun6 ?_
    clear hrun6
    refine hK.out _ _ (by exact hS6) (fun hH18 => ?_)
    clear hK K
    try simp only [Act.put, List.setIfInBounds_toArray, List.set_cons_zero, List.set_cons_succ]
    refine tky 19 (some 44) hH18 ?_
    try simp only [Act.put, List.setIfInBounds_toArray, List.set_cons_zero, List.set_cons_succ]
    refine wpAnyH_ready (rs := [20]) (by kernel_rfl) (by simp) ?_
    refine AllReadyH.cons rfl (fun K hK => ?_) AllReadyH.nil
    obtain ⟨w7, hrun7, hm7, hg7, hz7⟩ := HST.out w6 (.slice (some ⟨gb, 0, none⟩) b.length cb) rfl
    have hS7 : w7.cell? ⟨p, 3, none⟩ = some (.map (some q.mb)) ∧ w7.cell? ⟨vb, 0, none⟩ = some (.int .i64 i) ∧ w7.cell? ⟨vb, 1, none⟩ = some (.slice (some ⟨gb, 0, none⟩) b.length cb) := by
      have hp7 := (HP5.out.grownTo HG6.out (fun e => by injection e with e; exact HMP.out e)).grownTo hg7 (fun e => by injection e with e; exact HMP.out e)
      have hv7 := (HV5.out.grownTo HG6.out (fun e => by injection e with e; exact HM5.out.ne_arr HV5.out e.symm)).grownTo hg7 (fun e => by injection e with e; exact HM5.out.ne_arr HV5.out e.symm)
      exact ⟨hp7.cell 3, hv7.cell 0, hv7.cell 1⟩
    have HM7 := Lib.hid hm7; have HG7 := Lib.hid hg7; have HZ7 := Lib.hid hz7
    clear hm7 hg7 hz7
    refine wp_entryStore (.tmp 30) (.tmp 44) (.tmp 40) 182 rfl rfl rfl rfl hrun7 ?_
    clear hrun7
    refine hK.out _ _ (by exact hS7) (fun hH20 => ?_)
    clear hK K
    try simp only [Act.put, List.setIfInBounds_toArray, List.set_cons_zero, List.set_cons_succ]
    refine wpAnyH_done (by kernel_rfl) ?_ _
    go_wp2_with fail
    go_ret
    have hT : Tch S w w7 := ((((((Tch.of_below HBW2.out).below HBX.out).grown HG4.out (fun k e => .inl (HD2.out.row.block k e))).put (p := ⟨p, 2, none⟩) (.inl HD2.out.foot.1) _).grown HG6.out (fun k e => .inl (by injection e with e; exact e ▸ HD2.out.foot.2.1))).grown HG7.out (fun k e => .inl (by injection e with e; exact e ▸ HD2.out.foot.2.1)))
    have hz7 : vb + 2 ≤ w7.heap.size := by
      have a1 := HZ7.out; have a2 := HZ6.out; have a3 := HG4.out.size; have a4 := HVB.out
      simp at a2 a3
      omega
    have hgv := HGV.out; have hgw := HGW.out; have hgbw := HGB.out
    have hS7' : ∀ k, S k → k < w.heap.size := HLT.out
    have hk7 : ∀ k, k < w2.heap.size → k ≠ p → k ≠ q.mb → q.rv.ownBlock ≠ some k → w7.heap[k]? = w2.heap[k]? := fun k hk h1 h2 h3 => by
      have z4 := HG4.out.size; have z6 := HZ6.out; have hv := HVB.out
      simp at z4 z6
      have k4 := HK4.out k hk h3
      have k5 := Below.heap_setCell w4 ⟨p, 2, none⟩ (.slice (some ⟨ga, 0, none⟩) (d.row.length + 1) ca) k h1
      have k6 := HG6.out.block k (by rw [World.size_setCell]; omega) (fun e => by injection e with e; exact h2 e)
      have k7 := HG7.out.block k (by omega) (fun e => by injection e with e; exact h2 e)
      exact k7.trans (k6.trans (k5.trans k4))
    have hga : q.mb ≠ ga := by obtain ⟨es, cc, hb⟩ := HM5.out.obj; exact HR5.out.ne_obj rfl hb (fun c e => by injection e)
    have hz6 := HZ6.out
    have hgal := (own_lt HR5.out.own (g := ga) rfl).1
    have hr7 := HR5.out.keep1 (w' := w7) ((HG7.out.block ga (by omega) (fun e => by injection e with e; exact hga e.symm)).trans (HG6.out.block ga hgal (fun e => by injection e with e; exact hga e.symm)))
    have hp7 := (HP5.out.grownTo HG6.out (fun e => by injection e with e; exact HMP.out e)).grownTo HG7.out (fun e => by injection e with e; exact HMP.out e)
    have hm7 := HM7.out
    have hcb := HCB.out
    have hlb := HLB.out
    rw [hlb] at hm7 hcb hr7
    refine ⟨rfl, HD2.out.write hi hlb hcb ?_ (fun hs => by have := hS7' gb hs; omega) (.inr ⟨hgbw, by omega⟩) (fun k hs => hk7 k (HD2.out.lt k hs)) hp7 (hr7.mono fun k hk hk3 => ?_) hm7 (fun k hk => .inl hk) (fun k hk => ?_), hT⟩
    · refine HBL2.out.same (hk7 gb (by have := HVB.out; omega) (fun e => ?_) (fun e => ?_) (fun e => ?_))
      · have := hS7' p HD2.out.foot.1; omega
      · have := hS7' q.mb HD2.out.foot.2.1; omega
      · have := hS7' gb (HD2.out.row.block gb e); omega
    · rcases hk with hk | hk
      · exact .inl hk
      · refine .inr ⟨?_, hk3⟩
        rw [hk]; have := HVB.out; simp; omega
    · rcases hk with hk | hk
      · have := hS7' k hk; omega
      · exact hk.2
  · go_simp
    go_wp2_with fail
    refine hK.out _ _ (by exact HS3.out) (fun hHa => ?_)
    clear hK K
    try simp only [Act.put, List.setIfInBounds_toArray, List.set_cons_zero, List.set_cons_succ]
    refine wpAnyH_ready (rs := [9]) (by kernel_rfl) (by simp) ?_
    refine AllReadyH.cons rfl (fun K hK => ?_) AllReadyH.nil
    go_simp
    go_wp2_with fail
    refine hK.out _ _ (by exact HS3.out) (fun hHb => ?_)
    clear hK K
    try simp only [Act.put, List.setIfInBounds_toArray, List.set_cons_zero, List.set_cons_succ]
    refine wpAnyH_ready (rs := [12]) (by kernel_rfl) (by simp) ?_
    refine AllReadyH.cons rfl (fun K hK => ?_) AllReadyH.nil
    refine wp_append_elem _ (.tmp 35) (.tmp 37) 183 rfl 326 i0 (.agg #[.int .i64 0, .slice none 0 0]) 2 32 Tryz.underlying183 hi0 hz0 hz1 hz2 rfl (by decide) q.rv d.row.length (rowC d q) rfl HR3.out ⟨w2.heap.size, 0, none⟩ 1 [.int .i64 i, .slice (some ⟨gb, 0, none⟩) b.length cb] rfl rfl (news_any w2.drew _ _) (by intro u hu; simp at hu; rcases hu with rfl | rfl <;> rfl) (by unfold maxLen; omega) (by omega) ?_
    intro ga ca w4 hr4 hg4
    have hk4 : ∀ k, k < w2.heap.size → q.rv.ownBlock ≠ some k → w4.heap[k]? = w2.heap[k]? := fun k hk hne => (hg4.block k (Nat.lt_of_lt_of_le hk HBX.out.size) (fun e => hne e.symm)).trans (HBX.out.block k hk)
    have hp4 : Arr w4 p 185 #[.int .i64 d.size, .slice (some ⟨q.gd, 0, none⟩) d.dur.length q.cd, q.rv, .map (some q.mb)] := (hk4 p HD2.out.own.lt (fun e => HD2.out.row.ne_obj e HD2.out.own (fun c e => by injection e with _ e2; revert e2; decide) rfl)).trans HD2.out.own
    have hv4 : Arr w4 vb 326 #[.int .i64 i, .slice (some ⟨gb, 0, none⟩) b.length cb] := (hk4 vb (by have := HVB.out; omega) (fun e => by have := HLT.out vb (HD2.out.row.block vb e); have := HGW.out; omega)).trans HA2.out
    have hm4 : MapV Tryz.prog 3 .i64 w4 q.mb q.mn (newV d q) := HD2.out.newest.same (hk4 q.mb HD2.out.newest.lt (fun e => by obtain ⟨es, c, hb⟩ := HD2.out.newest.obj; exact HD2.out.row.ne_obj e hb (fun c e => by injection e) rfl))
    have hS4 : w4.cell? ⟨p, 3, none⟩ = some (.map (some q.mb)) ∧ w4.cell? ⟨vb, 0, none⟩ = some (.int .i64 i) ∧ w4.cell? ⟨vb, 1, none⟩ = some (.slice (some ⟨gb, 0, none⟩) b.length cb) := ⟨hp4.cell 3, hv4.cell 0, hv4.cell 1⟩
    have z5 : w4.cell? ⟨p, 2, none⟩ = some q.rv := hp4.cell 2
    have m5 := hp4.mark 2
    have hpv : p ≠ vb := fun e => by have := HLT.out p HD2.out.foot.1; have := HGW.out; omega
    have hp5 : Arr (w4.setCell ⟨p, 2, none⟩ (.slice (some ⟨ga, 0, none⟩) (d.row.length + 1) ca)) p 185 #[.int .i64 d.size, .slice (some ⟨q.gd, 0, none⟩) d.dur.length q.cd, .slice (some ⟨ga, 0, none⟩) (d.row.length + 1) ca, .map (some q.mb)] := by simpa using hp4.put 2 (.slice (some ⟨ga, 0, none⟩) (d.row.length + 1) ca)
    have hv5 := hv4.other (p := ⟨p, 2, none⟩) (fun e => hpv e.symm) (.slice (some ⟨ga, 0, none⟩) (d.row.length + 1) ca)
    have hS5 : (w4.setCell ⟨p, 2, none⟩ (.slice (some ⟨ga, 0, none⟩) (d.row.length + 1) ca)).cell? ⟨p, 3, none⟩ = some (.map (some q.mb)) ∧ (w4.setCell ⟨p, 2, none⟩ (.slice (some ⟨ga, 0, none⟩) (d.row.length + 1) ca)).cell? ⟨vb, 0, none⟩ = some (.int .i64 i) ∧ (w4.setCell ⟨p, 2, none⟩ (.slice (some ⟨ga, 0, none⟩) (d.row.length + 1) ca)).cell? ⟨vb, 1, none⟩ = some (.slice (some ⟨gb, 0, none⟩) b.length cb) := ⟨hp5.cell 3, hv5.cell 0, hv5.cell 1⟩
    have hmp : q.mb ≠ p := fun e => hm4.ne_arr hp4 e.symm
    have hm5 := hm4.same (w' := w4.setCell ⟨p, 2, none⟩ (.slice (some ⟨ga, 0, none⟩) (d.row.length + 1) ca)) (Below.heap_setCell w4 ⟨p, 2, none⟩ _ q.mb hmp)
    have hpa : p ≠ ga := hr4.ne_obj rfl hp4 (fun c e => by injection e with _ e2; revert e2; decide)
    have hr5 := hr4.put (q := ⟨p, 2, none⟩) (fun g e => (show ga = g by simpa [Value.ownBlock] using e) ▸ hpa) (.slice (some ⟨ga, 0, none⟩) (d.row.length + 1) ca)
    have hw4z := hg4.size
    have HR5 := Lib.hid hr5; have HG4 := Lib.hid hg4; have HK4 := Lib.hid hk4; have HP5 := Lib.hid hp5; have HV5 := Lib.hid hv5; have HM5 := Lib.hid hm5; have HS5 := Lib.hid hS5; have HMP := Lib.hid hmp; have HZ4 := Lib.hid hw4z
    clear hr4 hg4 hk4 hp4 hv4 hm4 hp5 hv5 hS5 hmp hm5 hr5 hpa hpv hw4z
    refine hK.out _ _ (by exact hS4) (fun hH12 => ?_)
    clear hK K
    try simp only [Act.put, List.setIfInBounds_toArray, List.set_cons_zero, List.set_cons_succ]
    refine tky 15 (some 41) hH12 ?_
    try simp only [Act.put, List.setIfInBounds_toArray, List.set_cons_zero, List.set_cons_succ]
    refine tky 16 (some 42) hH12 ?_
    try simp only [Act.put, List.setIfInBounds_toArray, List.set_cons_zero, List.set_cons_succ]
    refine wpAnyH_ready (rs := [17]) (by kernel_rfl) (by simp) ?_
    refine AllReadyH.cons rfl (fun K hK => ?_) AllReadyH.nil
    go_simp
    go_wp2_with fail
    refine hK.out _ _ (by exact HS5.out) (fun hH17 => ?_)
    clear hK K
    try simp only [Act.put, List.setIfInBounds_toArray, List.set_cons_zero, List.set_cons_succ]
    refine wpAnyH_ready (rs := [18]) (by kernel_rfl) (by simp) ?_
    refine AllReadyH.cons rfl (fun K hK => ?_) AllReadyH.nil
    obtain ⟨v0, st, w6, hrun6, hg6, hz6, hst⟩ := HM5.out.entry Tryz.underlying3 Tryz.underlying182 (fun u => slice_zero u) (show q.mn < maxLen by have := HD2.out.few; unfold maxLen; omega) (i := (i : Int)) HWF.out
    have hS6 : w6.cell? ⟨p, 3, none⟩ = some (.map (some q.mb)) ∧ w6.cell? ⟨vb, 0, none⟩ = some (.int .i64 i) ∧ w6.cell? ⟨vb, 1, none⟩ = some (.slice (some ⟨gb, 0, none⟩) b.length cb) := by
      have hp6 := HP5.out.grownTo hg6 (fun e => by injection e with e; exact HMP.out e)
      have hv6 := HV5.out.grownTo hg6 (fun e => by injection e with e; exact HM5.out.ne_arr HV5.out e.symm)
      exact ⟨hp6.cell 3, hv6.cell 0, hv6.cell 1⟩
    have HG6 := Lib.hid hg6; have HZ6 := Lib.hid hz6; have HST := Lib.hid hst
    clear hg6 hz6 hst
    refine wp_mapEntry (.tmp 30) (.tmp 31) 182 rfl rfl rfl hrun6 ?_
    clear hrun6
    refine hK.out _ _ (by exact hS6) (fun hH18 => ?_)
    clear hK K
    try simp only [Act.put, List.setIfInBounds_toArray, List.set_cons_zero, List.set_cons_succ]
    refine tky 19 (some 44) hH18 ?_
    try simp only [Act.put, List.setIfInBounds_toArray, List.set_cons_zero, List.set_cons_succ]
    refine wpAnyH_ready (rs := [20]) (by kernel_rfl) (by simp) ?_
    refine AllReadyH.cons rfl (fun K hK => ?_) AllReadyH.nil
    obtain ⟨w7, hrun7, hm7, hg7, hz7⟩ := HST.out w6 (.slice (some ⟨gb, 0, none⟩) b.length cb) rfl
    have hS7 : w7.cell? ⟨p, 3, none⟩ = some (.map (some q.mb)) ∧ w7.cell? ⟨vb, 0, none⟩ = some (.int .i64 i) ∧ w7.cell? ⟨vb, 1, none⟩ = some (.slice (some ⟨gb, 0, none⟩) b.length cb) := by
      have hp7 := (HP5.out.grownTo HG6.out (fun e => by injection e with e; exact HMP.out e)).grownTo hg7 (fun e => by injection e with e; exact HMP.out e)
      have hv7 := (HV5.out.grownTo HG6.out (fun e => by injection e with e; exact HM5.out.ne_arr HV5.out e.symm)).grownTo hg7 (fun e => by injection e with e; exact HM5.out.ne_arr HV5.out e.symm)
      exact ⟨hp7.cell 3, hv7.cell 0, hv7.cell 1⟩
    have HM7 := Lib.hid hm7; have HG7 := Lib.hid hg7; have HZ7 := Lib.hid hz7
    clear hm7 hg7 hz7
    refine wp_entryStore (.tmp 30) (.tmp 44) (.tmp 40) 182 rfl rfl rfl rfl hrun7 ?_
    clear hrun7
    refine hK.out _ _ (by exact hS7) (fun hH20 => ?_)
    clear hK K
    try simp only [Act.put, List.setIfInBounds_toArray, List.set_cons_zero, List.set_cons_succ]
    refine wpAnyH_done (by kernel_rfl) ?_ _
    go_wp2_with fail
    go_ret
    have hT : Tch S w w7 := ((((((Tch.of_below HBW2.out).below HBX.out).grown HG4.out (fun k e => .inl (HD2.out.row.block k e))).put (p := ⟨p, 2, none⟩) (.inl HD2.out.foot.1) _).grown HG6.out (fun k e => .inl (by injection e with e; exact e ▸ HD2.out.foot.2.1))).grown HG7.out (fun k e => .inl (by injection e with e; exact e ▸ HD2.out.foot.2.1)))
    have hz7 : vb + 2 ≤ w7.heap.size := by
      have a1 := HZ7.out; have a2 := HZ6.out; have a3 := HG4.out.size; have a4 := HVB.out
      simp at a2 a3
      omega
    have hgv := HGV.out; have hgw := HGW.out; have hgbw := HGB.out
    have hS7' : ∀ k, S k → k < w.heap.size := HLT.out
    have hk7 : ∀ k, k < w2.heap.size → k ≠ p → k ≠ q.mb → q.rv.ownBlock ≠ some k → w7.heap[k]? = w2.heap[k]? := fun k hk h1 h2 h3 => by
      have z4 := HG4.out.size; have z6 := HZ6.out; have hv := HVB.out
      simp at z4 z6
      have k4 := HK4.out k hk h3
      have k5 := Below.heap_setCell w4 ⟨p, 2, none⟩ (.slice (some ⟨ga, 0, none⟩) (d.row.length + 1) ca) k h1
      have k6 := HG6.out.block k (by rw [World.size_setCell]; omega) (fun e => by injection e with e; exact h2 e)
      have k7 := HG7.out.block k (by omega) (fun e => by injection e with e; exact h2 e)
      exact k7.trans (k6.trans (k5.trans k4))
    have hga : q.mb ≠ ga := by obtain ⟨es, cc, hb⟩ := HM5.out.obj; exact HR5.out.ne_obj rfl hb (fun c e => by injection e)
    have hz6 := HZ6.out
    have hgal := (own_lt HR5.out.own (g := ga) rfl).1
    have hr7 := HR5.out.keep1 (w' := w7) ((HG7.out.block ga (by omega) (fun e => by injection e with e; exact hga e.symm)).trans (HG6.out.block ga hgal (fun e => by injection e with e; exact hga e.symm)))
    have hp7 := (HP5.out.grownTo HG6.out (fun e => by injection e with e; exact HMP.out e)).grownTo HG7.out (fun e => by injection e with e; exact HMP.out e)
    have hm7 := HM7.out
    have hcb := HCB.out
    have hlb := HLB.out
    rw [hlb] at hm7 hcb hr7
    refine ⟨rfl, HD2.out.write hi hlb hcb ?_ (fun hs => by have := hS7' gb hs; omega) (.inr ⟨hgbw, by omega⟩) (fun k hs => hk7 k (HD2.out.lt k hs)) hp7 (hr7.mono fun k hk hk3 => ?_) hm7 (fun k hk => .inl hk) (fun k hk => ?_), hT⟩
    · refine HBL2.out.same (hk7 gb (by have := HVB.out; omega) (fun e => ?_) (fun e => ?_) (fun e => ?_))
      · have := hS7' p HD2.out.foot.1; omega
      · have := hS7' q.mb HD2.out.foot.2.1; omega
      · have := hS7' gb (HD2.out.row.block gb e); omega
    · rcases hk with hk | hk
      · exact .inl hk
      · refine .inr ⟨?_, hk3⟩
        rw [hk]; have := HVB.out; simp; omega
    · rcases hk with hk | hk
      · have := hS7' k hk; omega
      · exact hk.2
theorem Write_in {p : Nat} {d : Dk} {S : Nat → Prop} {w : World} (h : DkIn p d S w) (at_ : Int) (b : By) (A : Option Addr) (c : Nat) (hB : Bs w A b) (hA : okA A) (hrow : d.row.length < 1000000) :
    Calls Tryz.prog 193 #[.pointer (some ⟨p, 0, none⟩), .int .i64 at_, .slice A b.length c] w fun e w' => e = .returned (.int .i64 (d.write at_ b).1) ∧ DkIn p (d.write at_ b).2 (Gr S w w') w' ∧ Tch S w w' := by
  have L := DkIn_loc p d
  have hS := fun k hk => L.lt h k hk
  have h0 := h
  obtain ⟨q, h⟩ := h
  have same : ∀ e w', e = Ending.returned (.int .i64 50) ∧ w' = w → e = .returned (.int .i64 50) ∧ DkIn p d (Gr S w w') w' ∧ Tch S w w' := by
    rintro e w' ⟨rfl, rfl⟩; exact ⟨rfl, L.toGr h0 hS (Nat.le_refl _), Tch.refl _ _⟩
  cases hb : d.bad at_ with
  | true => rw [Dk.write, if_pos hb]; exact (Write_bad h at_ hb _).mono same
  | false =>
    rw [Dk.write, if_neg (by rw [hb]; simp)]
    obtain ⟨i, rfl⟩ : ∃ i : Nat, at_ = i := ⟨at_.toNat, by simp only [Dk.bad, Bool.or_eq_false_iff, decide_eq_false_iff_not] at hb; omega⟩
    have hi : i < d.dur.length := by simp only [Dk.bad, Bool.or_eq_false_iff, decide_eq_false_iff_not] at hb; omega
    by_cases hl : b.length = d.size
    · rw [if_pos hl]
      exact (Write_ok h i hi b hl A c hB hA hrow).mono fun e w' hh => hh
    · rw [if_neg hl]
      refine (Write_long h i hb A b.length c hl).mono ?_
      rintro e w' ⟨rfl, rfl⟩; exact ⟨rfl, L.toGr h0 hS (Nat.le_refl _), Tch.refl _ _⟩

end Go.Proofs.YtbnkanehjnepbaaGreatDoor.En
end

/- Layer 5: what waits becomes durable. -/
section
set_option linter.unusedVariables false
set_option linter.unusedSimpArgs false
namespace Go.Proofs.YtbnkanehjnepbaaGreatDoor.En
open Go.RowKit
open Go.Proofs.YtbnkanehjnepbaaGreatDoor.Oc (Bs bytesV byteV okA okA_some okA_none ClOut)

theorem settleL_snoc (of : Nat → Nat) (x : Nat × By) : ∀ (l : List (Nat × By)) (dur : List By) (i : Nat), settleL of dur i (l ++ [x]) = (settleL of dur i l).set x.1 (over ((settleL of dur i l).getD x.1 []) x.2 (of (i + l.length)))
  | [], dur, i => by simp [settleL]
  | y :: r, dur, i => by
    rw [List.cons_append, settleL, settleL_snoc of x r, settleL, List.length_cons, Nat.add_assoc, Nat.add_comm 1]
theorem getD_set (l : List By) (a i : Nat) (x : By) (ha : a < l.length) : (l.set a x).getD i [] = if i = a then x else l.getD i [] := by
  rw [List.getD_eq_getElem?_getD, List.getElem?_set]
  by_cases h : a = i
  · subst h; rw [if_pos rfl, if_pos rfl, if_pos ha]; rfl
  · rw [if_neg h, if_neg (fun e => h e.symm), List.getD_eq_getElem?_getD]
/-- a disk whose sector a has turned -/
theorem DkLies.turn {S : Nat → Prop} {w w' : World} {p a : Nat} {d : Dk} {q : DkP} {b : By} (h : DkLies S w p d q) (ha : a < d.dur.length) (hb : b.length = d.size) (hblk : Blk w' 5 (q.ad a) b) (hz : w.heap.size ≤ w'.heap.size) (hk : ∀ k, k < w.heap.size → k ≠ q.ad a → w'.heap[k]? = w.heap[k]?) :
    DkLies S w' p { d with dur := d.dur.set a b } q := by
  obtain ⟨cur, hcur, _⟩ := (h.each a ha).1
  have ne : ∀ {k : Nat} {o : Obj}, w.heap[k]? = some o → (∀ c, o ≠ .cells c 5 (0, 0)) → k ≠ q.ad a := fun {k o} ho hne e => by
    subst e; rw [hcur] at ho; injection ho with ho; exact hne _ ho.symm
  have nb : ∀ {k : Nat} {t : TypeId} {cs : Array Value}, Arr w k t cs → t ≠ 5 → k ≠ q.ad a := fun {k t cs} hA ht => ne hA (fun c e => by injection e with _ e2; exact ht e2)
  have hlen : (d.dur.set a b).length = d.dur.length := List.length_set
  have hrow : ∀ {e : TypeId} {sz n : Nat} {v : Value} {c : Nat → List Value}, RowIn S w e sz v n c → e ≠ 5 → RowIn S w' e sz v n c := fun {e sz n v c} hr he =>
    ⟨own_same hr.own fun g hg => hk g (own_lt hr.own hg).1 (by
      rcases hr.own.2 with ⟨hv, _⟩ | ⟨g', cap', cc, hv, _, hh, _⟩
      · subst hv; simp [Value.ownBlock] at hg
      · subst hv
        have e1 : g' = g := by simpa [Value.ownBlock] using hg
        subst e1
        exact ne hh (fun c e2 => by injection e2 with _ e3; exact he e3)), hr.block⟩
  refine ⟨?_, ?_, fun i hi => ?_, hrow h.row (by decide), fun i hi => ?_, h.newest.same (hk _ h.newest.lt ?_), ⟨h.ok.size, by rw [hlen]; exact h.ok.some, fun x hx => ?_, fun x hx => by rw [hlen]; exact h.ok.waits x hx⟩, ⟨h.foot.1, h.foot.2.1, fun i hi => h.foot.2.2.1 i (by rwa [hlen] at hi), h.foot.2.2.2⟩, ⟨fun i j hi hj => h.apart.1 i j (by rwa [hlen] at hi) (by rwa [hlen] at hj), fun i j hi hj => h.apart.2 i j (by rwa [hlen] at hi) hj⟩, fun k hk => Nat.lt_of_lt_of_le (h.lt k hk) hz, h.few⟩
  · show Arr w' p _ #[.int .i64 d.size, .slice (some ⟨q.gd, 0, none⟩) (d.dur.set a b).length q.cd, q.rv, .map (some q.mb)]
    rw [hlen]
    exact (hk p h.own.lt (nb h.own (by decide))).trans h.own
  · show RowIn S w' _ 1 (.slice (some ⟨q.gd, 0, none⟩) (d.dur.set a b).length q.cd) (d.dur.set a b).length _
    rw [hlen]
    exact hrow h.dur (by decide)
  · show Blk w' _ (q.ad i) ((d.dur.set a b).getD i []) ∧ d.size ≤ q.cp i
    rw [hlen] at hi
    rw [getD_set _ _ _ _ ha]
    by_cases e : i = a
    · subst e; rw [if_pos rfl]; exact ⟨hblk, (h.each i hi).2⟩
    · rw [if_neg e]
      exact ⟨(h.each i hi).1.same (hk _ (h.each i hi).1.lt (fun e2 => e (h.apart.1 i a hi ha e2))), (h.each i hi).2⟩
  · exact ⟨(h.waits i hi).1.same (hk _ (h.waits i hi).1.lt (fun e => h.apart.2 a i ha hi e.symm)), (h.waits i hi).2⟩
  · obtain ⟨es, c, hb'⟩ := h.newest.obj
    exact ne hb' (fun c e => by injection e)
  · rcases List.mem_or_eq_of_mem_set hx with hx | hx
    · exact h.ok.each x hx
    · rw [hx]; exact hb
/-- a disk of which nothing waits any more -/
theorem DkLies.dry {S : Nat → Prop} {w w' : World} {p : Nat} {d : Dk} {q : DkP} (h : DkLies S w p d q) (hk : ∀ k, S k → k ≠ p → k ≠ q.mb → w'.heap[k]? = w.heap[k]?)
    (hown : Arr w' p 185 #[.int .i64 d.size, .slice (some ⟨q.gd, 0, none⟩) d.dur.length q.cd, .slice none 0 0, .map (some q.mb)]) (hm : MapV Tryz.prog 3 .i64 w' q.mb 0 (fun _ => none)) (hz : w.heap.size ≤ w'.heap.size) : DkLies S w' p { d with row := [] } { q with rv := .slice none 0 0, mn := 0 } := by
  have ne : ∀ {k : Nat} {t : TypeId} {cs : Array Value}, Arr w k t cs → t ≠ 185 → k ≠ p ∧ k ≠ q.mb := fun {k t cs} hA ht => ⟨fun e => by
    subst e
    have h1 := h.own
    rw [Arr] at h1 hA
    rw [h1] at hA
    injection hA with hA
    injection hA with _ e2
    exact ht e2.symm, h.newest.ne_arr hA⟩
  have nb : ∀ {k : Nat} {l : By}, Blk w 5 k l → k ≠ p ∧ k ≠ q.mb := fun {k l} hb => by obtain ⟨cur, h1, _⟩ := hb; exact ne h1 (by decide)
  refine ⟨hown, ⟨own_same h.dur.own fun g hg => ?_, h.dur.block⟩, fun i hi => ⟨(h.each i hi).1.same (hk _ (h.foot.2.2.1 i hi) (nb (h.each i hi).1).1 (nb (h.each i hi).1).2), (h.each i hi).2⟩, RowIn.nil _ _ _ _ _, fun i hi => absurd hi (Nat.not_lt_zero i), ?_, ⟨h.ok.size, h.ok.some, h.ok.each, fun x hx => by cases hx⟩, ⟨h.foot.1, h.foot.2.1, h.foot.2.2.1, fun i hi => absurd hi (Nat.not_lt_zero i)⟩, ⟨h.apart.1, fun i j _ hj => absurd hj (Nat.not_lt_zero j)⟩, fun k hk => Nat.lt_of_lt_of_le (h.lt k hk) hz, Nat.le_refl _⟩
  · have hS := h.dur.block g hg
    rcases h.dur.own.2 with ⟨hv, _⟩ | ⟨g', cap', cc, hv, _, hh, _⟩
    · cases hv
    · have e1 : q.gd = g := by simpa [Value.ownBlock] using hg
      injection hv with e2 _ _
      injection e2 with e2
      injection e2 with e2
      subst e1
      rw [← e2] at hh
      exact hk _ hS (ne hh (by decide)).1 (ne hh (by decide)).2
  · have : newV { d with row := [] } { q with rv := .slice none 0 0, mn := 0 } = fun _ => none := by
      funext z; unfold newV; split <;> rfl
    rw [this]; exact hm
/-- 'copy' of bytes over a sector's block -/
theorem wp_copyB (w : World) {o : Oper} {a : Act} {K : Act → World → Prop} {Q : Exit → Act → World → Prop} (x y : Operand) (hop : o.op = Op.call { callee := Callee.builtin Builtin.copy, args := #[x, y], argTypes := #[51, 51] })
    (g s cp k c2 : Nat) (ad : Addr) (old b : By) (hx : a.eval x = .slice (some ⟨g, 0, none⟩) s cp) (hy : a.eval y = .slice (some ad) k c2) (hg : Blk w 5 g old) (ho : old.length = s) (hk : k ≤ s) (hB : Bs w (some ad) b) (hbk : k ≤ b.length)
    (hK : ∀ w' v, Blk w' 5 g (over old b k) → w.grownBy w' (some g) → w'.heap.size = w.heap.size → K (a.put o.dst v) w') : Oper.wp Tryz.prog o a w K Q := by
  obtain ⟨cur, hcur, hin⟩ := hg
  have hcs : ((bytesV b).take k).length = Nat.min k s := by rw [List.length_take, Oc.bytesV_len, Nat.min_eq_left hbk]; exact (Nat.min_eq_left hk).symm
  have hfit : old.length ≤ cur.size := by
    rcases Nat.eq_zero_or_pos old.length with h0 | h0
    · omega
    · have := hin (old.length - 1) _ (Oc.bytesV_get (bs := old) (i := old.length - 1) (by omega))
      have := (Array.getElem?_eq_some_iff.1 this).1
      omega
  have hl : ((bytesV b).take k).length = k := by rw [hcs]; exact Nat.min_eq_left hk
  have hrun := run_copy_row (P := Tryz.prog) w 51 51 o.type 5 g 0 s cp ad k c2 cur 5 ((bytesV b).take k) Tryz.underlying51 (by kernel_rfl) hcur hcs (fun j v hj => hB.read j v (by
      have := (List.getElem?_eq_some_iff.1 hj).1
      rw [List.getElem?_take] at hj
      split at hj
      · exact hj
      · cases hj)) (by omega) (fun v hv => Oc.bytesV_one b v (List.mem_of_mem_take hv))
  unfold Oper.wp execOp
  simp only [hop, resolve, invoke, builtin, Sem.run_bind, Sem.run_pure, Result.andThen_ok, List.map_toArray, List.map_cons, List.map_nil, hx, hy, hrun]
  refine hK _ _ ⟨_, setRow_heap w g cur _ _ _ hcur, fun j u hj => ?_⟩ ⟨rfl, rfl, rfl, by simp [World.setRow], fun i _ hi => ?_⟩ (by simp [World.setRow])
  · have hj2 := (List.getElem?_eq_some_iff.1 hj).1
    rw [Oc.bytesV_len, over, List.length_append, List.length_take, List.length_drop] at hj2
    unfold over at hj
    rw [Oc.bytesV_app] at hj
    simp only [List.take_zero, List.nil_append, Nat.zero_add, hl]
    rw [← Array.getElem?_toList]
    simp only [List.toList_toArray]
    have e1 : bytesV (b.take k) = (bytesV b).take k := by unfold bytesV; rw [List.map_take]
    rw [e1] at hj
    rcases Nat.lt_or_ge j k with h1 | h1
    · rw [List.getElem?_append_left (by rw [hl]; exact h1)] at hj ⊢
      exact hj
    · rw [List.getElem?_append_right (by rw [hl]; exact h1), hl] at hj ⊢
      rw [List.getElem?_drop, show k + (j - k) = j by omega, Array.getElem?_toList]
      refine hin j u ?_
      have e2 : bytesV (old.drop k) = (bytesV old).drop k := by unfold bytesV; rw [List.map_drop]
      rw [e2, List.getElem?_drop, show k + (j - k) = j by omega] at hj
      exact hj
  · have hne : i ≠ g := fun e => hi (by rw [e])
    simp [World.setRow, Array.getElem?_modify, Ne.symm hne]

end Go.Proofs.YtbnkanehjnepbaaGreatDoor.En
end
