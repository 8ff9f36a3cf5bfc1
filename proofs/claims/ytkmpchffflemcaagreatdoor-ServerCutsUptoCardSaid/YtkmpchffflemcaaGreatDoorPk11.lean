/- Packed: Oct4, Cap, Cut1, Cut2, Buf, Oct5, Srv1, Srv2, Srv3, Srv4, Srv5, Srv6. -/
import Derived.Test.YtkmpchffflemcaaGreatDoorPk3
import Derived.Test.YtkmpchffflemcaaGreatDoorPk10
import Derived.Test.YtkmpchffflemcaaGreatDoorPk6
import Derived.Test.YtkmpchffflemcaaGreatDoorPk5
import Derived.Deep.CutRange
set_option linter.unusedVariables false
set_option linter.unusedSimpArgs false
/- Layer 2: octets: nothing taken of an empty rest; Take of any number. -/
section
set_option linter.unusedVariables false
set_option linter.unusedSimpArgs false
namespace Go.Proofs.YtkmpchffflemcaaGreatDoor.Oc
open Go.RowKit

def TzOut (q : Nat) (w : World) (en : Ending) (w' : World) : Prop := ∃ A c, en = .returned (.slice A 0 c) ∧ RsAt w' q [] 0 ∧ Tch (· = q) w w'
set_option maxRecDepth 100000 in
set_option maxHeartbeats 2000000 in
theorem take_zero (q : Nat) (w : World) (h : RsAt w q [] 0) : Calls Tryz.prog 27 #[.pointer (some ⟨q, 0, none⟩), .int .i64 0] w (TzOut q w) := by
  obtain ⟨A, c, h1, h2, h3, h4⟩ := h.ex
  have x0 : w.cell? ⟨q, 0, none⟩ = some (.slice A 0 c) := h1.cell 0
  have x1 : w.cell? ⟨q, 1, none⟩ = some (.int .i64 0) := h1.cell 1
  have m0 := h1.mark 0
  have hfin : ∀ (B : Option Addr) (e : Nat) (W : World) (A' : Option Addr) (c' : Nat), W = w.setCell ⟨q, 0, none⟩ (.slice B 0 e) → (B = A ∨ B = none) → TzOut q w (.returned (.slice A' 0 c')) W := by
    rintro B e W A' c' rfl hB
    refine ⟨A', c', rfl, ⟨B, e, by simpa using h1.put 0 (.slice B 0 e), Bs.nil _ _, Nat.zero_le _, fun g off hg => ?_⟩, Tch.at w q 0 _⟩
    rcases hB with rfl | rfl
    · exact ⟨(h4 g off hg).1, fun hne => absurd rfl hne⟩
    · cases hg
  have HF := Lib.hid hfin
  clear h h2 h3 hfin
  have hc0 : (0 : Int) ≤ (c : Int) := by omega
  cases A with
  | none =>
    clear h1 h4
    go_enter Tryz.func27, Tryz.ntmps27
    go_wp2_with fail
    all_goals go_ret
    all_goals exact HF.out _ _ _ _ _ rfl (.inl rfl)
  | some ad =>
    clear h1 h4
    go_enter Tryz.func27, Tryz.ntmps27
    go_wp2_with fail
    all_goals go_ret
    all_goals exact HF.out _ _ _ _ _ rfl (.inl rfl)
end Go.Proofs.YtkmpchffflemcaaGreatDoor.Oc
end

/- Layer 1: octets: what room a clone has. -/
section
set_option linter.unusedVariables false
set_option linter.unusedSimpArgs false
namespace Go.Proofs.YtkmpchffflemcaaGreatDoor.Oc
open Go.RowKit

/-- bytes at the head of a block of so many cells -/
def CapB (w : World) (g : Nat) (x : List UInt8) (c : Nat) : Prop := ∃ cur, Arr w g 5 cur ∧ cur.size = c ∧ ∀ (j : Nat) (u : Value), (bytesV x)[j]? = some u → cur[j]? = some u
theorem CapB.blk {w : World} {g c : Nat} {x : List UInt8} (h : CapB w g x c) : Blk w 5 g x := by
  obtain ⟨cur, h1, _, h3⟩ := h; exact ⟨cur, h1, h3⟩
theorem CapB.lt {w : World} {g c : Nat} {x : List UInt8} (h : CapB w g x c) : g < w.heap.size := h.blk.lt
theorem CapB.same {w w' : World} {g c : Nat} {x : List UInt8} (h : CapB w g x c) (hk : w'.heap[g]? = w.heap[g]?) : CapB w' g x c := by
  obtain ⟨cur, h1, h2⟩ := h; exact ⟨cur, hk.trans h1, h2⟩
theorem CapB.keep {w w' : World} {g c : Nat} {x : List UInt8} (h : CapB w g x c) (hb : Below w.heap.size w w') : CapB w' g x c := h.same (hb.block g h.lt)
theorem CapB.len {w : World} {g c : Nat} {x : List UInt8} (h : CapB w g x c) : x.length ≤ c := by
  obtain ⟨cur, h1, h2, h3⟩ := h
  rcases Nat.lt_or_ge c x.length with hl | hl
  · exfalso
    have h4 : (bytesV x)[c]? = some (byteV (x[c]'hl)) := by simp [bytesV, hl]
    have := (Array.getElem?_eq_some_iff.1 (h3 c _ h4)).1
    omega
  · exact hl
theorem own_cap {w : World} {base g cap n : Nat} {bs : List UInt8} (h : w.ownsRow base 5 1 (.slice (some ⟨g, 0, none⟩) n cap) n (bytesV bs)) (hn : bs.length = n) : CapB w g bs cap := by
  rcases h.2 with ⟨h0, _⟩ | ⟨g', cap', cur, hv, hb, hh, h1, h2, h3, h4⟩
  · cases h0
  · injection hv with e1 _ e2
    injection e1 with e1; injection e1 with e1
    subst e1 e2
    refine ⟨cur, hh, by omega, fun j u hu => ?_⟩
    have hj := (List.getElem?_eq_some_iff.1 hu).1
    rw [bytesV_len] at hj
    rw [← hu, ← h4, List.getElem?_take, if_pos (by omega), Array.getElem?_toList]
/-- bytes behind bytes, where there is no room -/
theorem wp_appC1 (w : World) {o : Oper} {a : Act} {K : Act → World → Prop} {Q : Exit → Act → World → Prop} (s x : Operand)
    (hop : o.op = Op.call { callee := Callee.builtin Builtin.append, args := #[s, x], argTypes := #[22, 22] }) (bs cs : List UInt8) (A : Option Addr) (n c : Nat) (hs : a.eval s = .slice A n c) (hn : n = bs.length) (hA : A = none → n = 0 ∧ c = 0) (hB : Bs w A bs)
    (ad : Addr) (m cp : Nat) (hx : a.eval x = .slice (some ad) m cp) (hm : m = cs.length) (hC : Bs w (some ad) cs) (hfull : c < n + m) (hl : n + m ≤ 70368744177664)
    (hK : ∀ g cp' w', w.heap.size ≤ g → CapB w' g (bs ++ cs) cp' → Below w.heap.size w w' → n + m ≤ cp' → K (a.put o.dst (.slice (some ⟨g, 0, none⟩) (n + m) cp')) w') : Oper.wp Tryz.prog o a w K Q := by
  obtain ⟨i0, hi, hz0, hz1, hz2⟩ := info_parts u8_info
  subst hn hm
  have b1 : bs.length + cs.length ≤ maxLen := by unfold maxLen; omega
  have b2 : (bs.length + cs.length) * 1 ≤ 140737488355328 := by omega
  have hnews : (bytesV cs).length = cs.length * 1 := by rw [bytesV_len, Nat.mul_one]
  have hgo : ∃ v' w', (Builtin.append_ #[22, 22] o.type #[.slice A bs.length c, .slice (some ad) cs.length cp]).run Tryz.prog w = .ok v' w' ∧ w'.ownsRow w.heap.size 5 1 v' (bs.length + cs.length) (bytesV bs ++ bytesV cs) ∧ w.grownBy w' none := by
    cases A with
    | some b =>
      obtain ⟨v', w', hrun, r1, r2⟩ := run_append_arg_grows (P := Tryz.prog) w 22 o.type 5 i0 (.int .u8 0) 1 1 Tryz.underlying22 hi hz0 hz1 hz2 rfl (by decide) b bs.length c (bytesV bs) (by rw [bytesV_len, Nat.mul_one]) hB.read ad cs.length cp (bytesV cs) hnews hC.read hfull b1 b2
      exact ⟨v', w', hrun, r1, r2⟩
    | none =>
      obtain ⟨h0, rfl⟩ := hA rfl
      obtain rfl := List.eq_nil_of_length_eq_zero h0
      obtain ⟨v', w', hrun, r1, r2, _⟩ := run_append_own (P := Tryz.prog) w w.heap.size 22 o.type 5 i0 (.int .u8 0) 1 1 Tryz.underlying22 hi hz0 hz1 hz2 rfl (by decide) (.slice none 0 0) 0 [] (World.ownsRow_nil w _ 5 1) ad cs.length cp (bytesV cs) hnews hC.read (bytesV_one cs) (by simpa using b1) (by simpa using b2) (Nat.le_refl _)
      exact ⟨v', w', hrun, r1, r2⟩
  obtain ⟨v', w', hrun, ho, hgr⟩ := hgo
  have hne : v' ≠ .slice none 0 0 := by
    rintro rfl
    rcases ho.2 with ⟨_, h0⟩ | ⟨_, _, _, h0, _⟩
    · omega
    · cases h0
  obtain ⟨g, cap, rfl⟩ := own_forms ho hne
  rw [← bytesV_app] at ho
  obtain ⟨_, h2, h3, _⟩ := own_blk ho (by rw [List.length_append])
  have h1 := own_cap ho (by rw [List.length_append])
  unfold Oper.wp execOp
  simp only [hop, resolve, invoke, builtin, Sem.run_bind, Sem.run_pure, Result.andThen_ok, List.map_toArray, List.map_cons, List.map_nil, hs, hx, hrun]
  exact hK g cap w' h3 h1 (Below.grown (Below.refl _ _) hgr (Nat.le_refl _) (by simp)) h2
theorem wp_appC (w : World) {ops : Array Oper} {rest : List Oper} {o : Oper} {a : Act} {Q : Exit → Act → World → Prop} (hg : o.guard = none) (s x : Operand)
    (hop : o.op = Op.call { callee := Callee.builtin Builtin.append, args := #[s, x], argTypes := #[22, 22] }) (bs cs : List UInt8) (A : Option Addr) (n c : Nat) (hs : a.eval s = .slice A n c) (hn : n = bs.length) (hA : A = none → n = 0 ∧ c = 0) (hB : Bs w A bs)
    (ad : Addr) (m cp : Nat) (hx : a.eval x = .slice (some ad) m cp) (hm : m = cs.length) (hC : Bs w (some ad) cs) (hfull : c < n + m) (hl : n + m ≤ 70368744177664)
    (hK : ∀ g cp' w', w.heap.size ≤ g → CapB w' g (bs ++ cs) cp' → Below w.heap.size w w' → n + m ≤ cp' → wpList Tryz.prog ops Q rest (a.put o.dst (.slice (some ⟨g, 0, none⟩) (n + m) cp')) w') : wpList Tryz.prog ops Q (o :: rest) a w :=
  wpList_plain hg fun _ hKK => wp_appC1 w s x hop bs cs A n c hs hn hA hB ad m cp hx hm hC hfull hl fun g cp' w' a b c d => hKK _ _ (hK g cp' w' a b c d)
/-- where a list's bytes are, and its room: none has none -/
def CapAt (w : World) (A : Option Addr) (x : List UInt8) (c : Nat) : Prop := (x = [] ∧ c = 0) ∨ (x ≠ [] ∧ ∃ g, A = some ⟨g, 0, none⟩ ∧ CapB w g x c)
theorem CapAt.same {w w' : World} {A : Option Addr} {x : List UInt8} {c : Nat} (h : CapAt w A x c) (hk : ∀ g, A = some ⟨g, 0, none⟩ → g < w.heap.size → x ≠ [] → w'.heap[g]? = w.heap[g]?) : CapAt w' A x c := by
  rcases h with h | ⟨hn, g, e, h⟩
  · exact .inl h
  · exact .inr ⟨hn, g, e, h.same (hk g e h.lt hn)⟩
def CcOut (bs : List UInt8) (w : World) (e : Ending) (w' : World) : Prop := ∃ A c, e = .returned (.slice A bs.length c) ∧ CapAt w' A bs c ∧ (bs ≠ [] → ∀ g, A = some ⟨g, 0, none⟩ → w.heap.size ≤ g) ∧ Below w.heap.size w w'
set_option maxRecDepth 100000 in
set_option maxHeartbeats 2000000 in
theorem CloneC_some (bs : List UInt8) (g off c : Nat) (w : World) (hB : Bs w (some ⟨g, off, none⟩) bs) (hne : bs ≠ []) (hl : bs.length ≤ 70368744177664) : Calls Tryz.prog 24 #[.slice (some ⟨g, off, none⟩) bs.length c] w (CcOut bs w) := by
  have hpos : 0 < bs.length := List.length_pos_iff.2 hne
  have HB := Lib.hid hB; have HN := Lib.hid hne
  have hq := nil_no ⟨g, off, none⟩ bs.length c
  clear hB hne
  go_enter Tryz.func24, Tryz.ntmps24
  go_wp2_with (refine wp_appC _ rfl _ _ rfl [] bs (some ⟨w.heap.size, 0, none⟩) 0 0 rfl rfl (by simp) (Bs.nil _ _) ⟨g, off, none⟩ bs.length c rfl rfl (HB.out.keep (ext_alloc (Below.refl _ _) _)) (by omega) (by omega) ?_; intro g5 c5 w5 hg5 hb5 hx5 hc5; have HG5 := Lib.hid hg5; have HB5 := Lib.hid hb5; have HX5 := Lib.hid hx5; have HC5 := Lib.hid hc5; clear hg5 hb5 hx5 hc5)
  go_ret
  have h5 := HG5.out
  simp at h5
  exact ⟨some ⟨g5, 0, none⟩, c5, by simp, .inr ⟨HN.out, g5, rfl, HB5.out⟩, (fun _ g' e => by injection e with e; injection e with e; omega), ext_trans (ext_alloc (Below.refl _ _) _) HX5.out⟩
set_option maxRecDepth 100000 in
set_option maxHeartbeats 2000000 in
theorem CloneC_empty (A : Option Addr) (c : Nat) (w : World) : Calls Tryz.prog 24 #[.slice A 0 c] w (CcOut [] w) := by
  cases A with
  | none =>
    have hq := nil_yes 0 c
    go_enter Tryz.func24, Tryz.ntmps24
    go_wp2_with fail
    go_ret
    exact ⟨none, 0, rfl, .inl ⟨rfl, rfl⟩, fun h => absurd rfl h, Below.refl _ _⟩
  | some ad =>
    have hq := nil_no ad 0 c
    go_enter Tryz.func24, Tryz.ntmps24
    go_wp2_with fail
    go_ret
    exact ⟨some ⟨w.heap.size, 0, none⟩, 0, rfl, .inl ⟨rfl, rfl⟩, fun h => absurd rfl h, ext_alloc (Below.refl _ _) _⟩
theorem CloneC_in (bs : List UInt8) (A : Option Addr) (c : Nat) (w : World) (hB : Bs w A bs) (hl : bs.length ≤ 70368744177664) : Calls Tryz.prog 24 #[.slice A bs.length c] w (CcOut bs w) := by
  by_cases hne : bs = []
  · subst hne; exact CloneC_empty A c w
  · obtain ⟨g, off, rfl, _⟩ := hB hne
    exact CloneC_some bs g off c w hB hne hl
/-- Reader.Take of bytes that are there -/
def RcOut (p q : Nat) (bs : List UInt8) (k : Nat) (w : World) (en : Ending) (w' : World) : Prop :=
  ∃ A c, en = .returned (.slice A (bs.take k).length c) ∧ CapAt w' A (bs.take k) c ∧ (bs.take k ≠ [] → ∀ g, A = some ⟨g, 0, none⟩ → w.heap.size ≤ g) ∧ RdAt w' p q (bs.drop k) 0 ∧ Tch (· = q) w w'
set_option maxRecDepth 100000 in
set_option maxHeartbeats 1000000 in
theorem RTakeC_of (p q k : Nat) (bs : List UInt8) (w : World) (h : RdAt w p q bs 0) (hl : bs.length ≤ 1000000000) (hk : Calls Tryz.prog 27 #[.pointer (some ⟨q, 0, none⟩), .int .i64 k] w (fun en w' => (∃ A c, en = .returned (.slice A (bs.take k).length c) ∧ Bs w' A (bs.take k)) ∧ RsAt w' q (bs.drop k) 0 ∧ Tch (· = q) w w')) : Calls Tryz.prog 15 #[.pointer (some ⟨p, 0, none⟩), .int .i64 k] w (RcOut p q bs k w) := by
  have x0 : w.cell? ⟨p, 0, none⟩ = some (.pointer (some ⟨q, 0, none⟩)) := h.own.cell 0
  have HH := Lib.hid h
  have HN := Lib.hid hk
  have HL := Lib.hid (show (bs.take k).length ≤ 1000000000 by rw [List.length_take]; omega)
  clear h hk hl
  unfold RcOut
  obtain ⟨x, hx⟩ : ∃ x, bs.take k = x := ⟨_, rfl⟩
  rw [hx] at HN HL ⊢
  clear hx
  go_enter Tryz.func15, Tryz.ntmps15
  go_wp2_with fail
  refine (made_in p q w x0).mono ?_
  rintro en w1 ⟨rfl, hw⟩
  rw [hw]
  clear hw w1
  go_wp2_with fail
  refine HN.out.mono ?_
  rintro en w1 ⟨⟨A, c, rfl, hb⟩, hr, ht⟩
  have hC := CloneC_in x A c w1 hb (by have := HL.out; omega)
  have HR := Lib.hid hr; have HT := Lib.hid ht; have HC := Lib.hid hC
  clear hb hr ht hC HN
  go_wp2_with fail
  refine HC.out.mono ?_
  rintro en w2 ⟨B, d, rfl, h1, h2, h5⟩
  have HF := Lib.hid (show (∃ A c, Ending.returned (.slice B x.length d) = .returned (.slice A x.length c) ∧ CapAt w2 A x c ∧ (x ≠ [] → ∀ g, A = some ⟨g, 0, none⟩ → w.heap.size ≤ g) ∧ RdAt w2 p q (bs.drop k) 0 ∧ Tch (· = q) w w2) from ⟨B, d, rfl, h1, fun hne g e => Nat.le_trans HT.out.size (h2 hne g e), (HH.out.next HR.out HT.out).keep h5, HT.out.below h5⟩)
  clear h1 h2 h5
  go_wp2_with fail
  go_ret
  exact HF.out
theorem RTakeC_in (p q k : Nat) (bs : List UInt8) (w : World) (h : RdAt w p q bs 0) (hk : k ≤ bs.length) (hl : bs.length ≤ 1000000000) : Calls Tryz.prog 15 #[.pointer (some ⟨p, 0, none⟩), .int .i64 k] w (RcOut p q bs k w) := by
  refine RTakeC_of p q k bs w h hl ?_
  by_cases hb : bs = []
  · subst hb
    obtain rfl : k = 0 := by simpa using hk
    refine (take_zero q w h.rest).mono ?_
    rintro en w' ⟨A, c, rfl, h1, h2⟩
    exact ⟨⟨A, c, rfl, Bs.nil _ _⟩, h1, h2⟩
  · refine (take_ok q k bs w h.rest hk hb).mono ?_
    rintro en w' ⟨⟨A, c, rfl, h1, _⟩, h2, h3⟩
    rw [tk_ok hk] at h1 h2 ⊢
    exact ⟨⟨A, c, rfl, h1⟩, h2, h3⟩

end Go.Proofs.YtkmpchffflemcaaGreatDoor.Oc
end

/- Layer 31: the pieces that are whole, plainly; rows of bytes, some of them empty. -/
section
set_option linter.unusedVariables false
set_option linter.unusedSimpArgs false
namespace Go.Proofs.YtkmpchffflemcaaGreatDoor.En
open Go.RowKit
open Go.Proofs.YtkmpchffflemcaaGreatDoor.Oc (le val CapB CapAt)

/-- the pieces that are whole, how many bytes they have, the error -/
def cutF : Nat → By → List By × Nat × Int
  | 0, _ => ([], 0, 0)
  | k + 1, b =>
    if b.length < 2 then ([], 0, 0)
    else if 64 < val (b.take 2) then ([], 0, 3)
    else if (b.drop 2).length < val (b.take 2) then ([], 0, 0)
    else (((b.drop 2).take (val (b.take 2))) :: (cutF k ((b.drop 2).drop (val (b.take 2)))).1, 2 + val (b.take 2) + (cutF k ((b.drop 2).drop (val (b.take 2)))).2.1, (cutF k ((b.drop 2).drop (val (b.take 2)))).2.2)
def cutP (b : By) : List By × Nat × Int := cutF (b.length + 1) b
theorem cutF_fuel : ∀ (k k' : Nat) (b : By), b.length < k → b.length < k' → cutF k b = cutF k' b
  | 0, _, _, h, _ => by omega
  | _ + 1, 0, _, _, h => by omega
  | k + 1, k' + 1, b, h, h' => by
    rw [cutF, cutF]
    split
    · rfl
    · split
      · rfl
      · split
        · rfl
        · rename_i h1 _ h2
          have h3 : ((b.drop 2).drop (val (b.take 2))).length < k := by simp at h1 h2 ⊢; omega
          have h4 : ((b.drop 2).drop (val (b.take 2))).length < k' := by simp at h1 h2 ⊢; omega
          rw [cutF_fuel k k' _ h3 h4]
theorem cutP_end {b : By} (h : b.length < 2) : cutP b = ([], 0, 0) := by rw [cutP, cutF, if_pos h]
theorem cutP_long {b : By} (h : 2 ≤ b.length) (hn : 64 < val (b.take 2)) : cutP b = ([], 0, 3) := by rw [cutP, cutF, if_neg (by omega), if_pos hn]
theorem cutP_part {b : By} (h : 2 ≤ b.length) (hn : val (b.take 2) ≤ 64) (hl : (b.drop 2).length < val (b.take 2)) : cutP b = ([], 0, 0) := by rw [cutP, cutF, if_neg (by omega), if_neg (by omega), if_pos hl]
theorem cutP_piece {b : By} (h : 2 ≤ b.length) (hn : val (b.take 2) ≤ 64) (hl : val (b.take 2) ≤ (b.drop 2).length) :
    cutP b = (((b.drop 2).take (val (b.take 2))) :: (cutP ((b.drop 2).drop (val (b.take 2)))).1, 2 + val (b.take 2) + (cutP ((b.drop 2).drop (val (b.take 2)))).2.1, (cutP ((b.drop 2).drop (val (b.take 2)))).2.2) := by
  rw [cutP, cutF, if_neg (by omega), if_neg (by omega), if_neg (by omega)]
  have e : cutF b.length ((b.drop 2).drop (val (b.take 2))) = cutP ((b.drop 2).drop (val (b.take 2))) := by
    unfold cutP
    exact cutF_fuel _ _ _ (by simp; omega) (by omega)
  rw [e]
theorem results_tmp3 {P : Program} {fn : Func} {a b c : Tmp} (h : fn.results = #[.tmp a, .tmp b, .tmp c]) (tmps : Array Value) (w : World) : (results fn tmps).run P w = .ok (.tuple #[tmps.getD a undef, tmps.getD b undef, tmps.getD c undef]) w := by
  simp [results, h]
theorem blk_ne {w : World} {g q : Nat} {x : By} {t : TypeId} {cs : Array Value} (h : Blk w 5 g x) (ha : Arr w q t cs) (ht : t ≠ 5) : g ≠ q := by
  rintro rfl
  obtain ⟨cur, h1, _⟩ := h
  unfold Arr at ha
  rw [h1] at ha
  injection ha with ha
  injection ha with _ h2 _
  exact ht h2.symm
/-- a row of rows of bytes, new but for the empty ones; each with its room, each its own -/
structure RowsAt (base : Nat) (w : World) (v : Value) (L : List By) (A : Nat → Option Addr) (C : Nat → Nat) : Prop where
  row : RowIn (fun k => v.ownBlock = some k) w 22 1 v L.length (fun i => [.slice (A i) (L.getD i []).length (C i)])
  caps : ∀ i, i < L.length → CapAt w (A i) (L.getD i []) (C i)
  each : ∀ i, i < L.length → L.getD i [] ≠ [] → ∀ g, A i = some ⟨g, 0, none⟩ → base ≤ g ∧ v.ownBlock ≠ some g
  dist : ∀ i i', i < L.length → i' < L.length → L.getD i [] ≠ [] → L.getD i' [] ≠ [] → A i = A i' → i = i'
  new : ∀ k, v.ownBlock = some k → base ≤ k
theorem RowsAt.blk {base : Nat} {w : World} {v : Value} {L : List By} {A : Nat → Option Addr} {C : Nat → Nat} (h : RowsAt base w v L A C) (i : Nat) (hi : i < L.length) (hne : L.getD i [] ≠ []) : ∃ g, A i = some ⟨g, 0, none⟩ ∧ CapB w g (L.getD i []) (C i) ∧ base ≤ g ∧ v.ownBlock ≠ some g := by
  rcases h.caps i hi with ⟨h0, _⟩ | ⟨_, g, h1, h2⟩
  · exact absurd h0 hne
  · exact ⟨g, h1, h2, h.each i hi hne g h1⟩
theorem RowsAt.same {base : Nat} {w w' : World} {v : Value} {L : List By} {A : Nat → Option Addr} {C : Nat → Nat} (h : RowsAt base w v L A C) (hv : ∀ k, v.ownBlock = some k → w'.heap[k]? = w.heap[k]?) (hA : ∀ i g, i < L.length → L.getD i [] ≠ [] → A i = some ⟨g, 0, none⟩ → CapB w g (L.getD i []) (C i) → w'.heap[g]? = w.heap[g]?) : RowsAt base w' v L A C :=
  ⟨⟨own_same h.row.own hv, h.row.block⟩, fun i hi => by
    rcases h.caps i hi with h0 | ⟨h0, g, h1, h2⟩
    · exact .inl h0
    · exact .inr ⟨h0, g, h1, h2.same (hA i g hi h0 h1 h2)⟩, h.each, h.dist, h.new⟩
theorem RowsAt.keep {base : Nat} {w w' : World} {v : Value} {L : List By} {A : Nat → Option Addr} {C : Nat → Nat} (h : RowsAt base w v L A C) (hb : Below w.heap.size w w') : RowsAt base w' v L A C :=
  h.same (fun k hk => hb.block k (own_lt h.row.own hk).1) fun i g _ _ _ h2 => hb.block g h2.lt
theorem RowsAt.nil (base : Nat) (w : World) : RowsAt base w (.slice none 0 0) [] (fun _ => none) (fun _ => 0) :=
  ⟨⟨own_nil w 0 1 _, fun g h => h⟩, fun i hi => by simp at hi, fun i hi => by simp at hi, fun i i' hi => by simp at hi, fun k h => by cases h⟩
theorem RowsAt.tch {base : Nat} {w w' : World} {v : Value} {L : List By} {A : Nat → Option Addr} {C : Nat → Nat} {T : Nat → Prop} (h : RowsAt base w v L A C) (ht : Tch T w w') (hv : ∀ k, v.ownBlock = some k → ¬ T k) (hA : ∀ (i g : Nat) (x : By), Blk w 5 g x → ¬ T g) : RowsAt base w' v L A C :=
  h.same (fun g hg => ht.block g (own_lt h.row.own hg).1 (hv g hg)) fun i g _ _ _ h2 => ht.block g h2.lt (hA i g _ h2.blk)
theorem RowsAt.one {base : Nat} {w w' : World} {v : Value} {L : List By} {A : Nat → Option Addr} {C : Nat → Nat} {q : Nat} {t : TypeId} {cs : Array Value} (h : RowsAt base w v L A C) (ht : Tch (· = q) w w') (ha : Arr w q t cs) (h1 : t ≠ 5) (h2 : t ≠ 22) : RowsAt base w' v L A C :=
  h.tch ht (fun k hk e => by
    subst e
    exact h.row.ne_obj hk ha (fun cur e => by injection e with _ e2; exact h2 e2) rfl) (fun i g x hb e => blk_ne hb ha h1 e)
theorem RowsAt.snoc {base : Nat} {wr w7 w8 : World} {v : Value} {L : List By} {A : Nat → Option Addr} {C : Nat → Nat} {x : By} {a2 : Option Addr} {c2 ga ca : Nat} (h : RowsAt base wr v L A C) (hb : Below wr.heap.size wr w7) (hx : CapAt w7 a2 x c2) (M : Nat) (hM : ∀ i g, i < L.length → L.getD i [] ≠ [] → A i = some ⟨g, 0, none⟩ → g < M) (hMv : ∀ k, v.ownBlock = some k → k < M) (hMb : base ≤ M) (hx2 : x ≠ [] → ∀ g, a2 = some ⟨g, 0, none⟩ → M ≤ g) (hbase : base ≤ wr.heap.size)
    (hr : RowIn (fun k => v.ownBlock = some k ∨ k = w7.heap.size) w8 22 1 (.slice (some ⟨ga, 0, none⟩) (L.length + 1) ca) (L.length + 1) (setL (fun i => [.slice (A i) (L.getD i []).length (C i)]) L.length [.slice a2 x.length c2])) (hg : w7.grownBy w8 v.ownBlock) :
    RowsAt base w8 (.slice (some ⟨ga, 0, none⟩) (L.length + 1) ca) (L ++ [x]) (fun i => if i = L.length then a2 else A i) (fun i => if i = L.length then c2 else C i) := by
  have hlen : (L ++ [x]).length = L.length + 1 := by simp
  have hz := hb.size
  have hown : ∀ k, v.ownBlock = some k → k < wr.heap.size := fun k hk => (own_lt h.row.own hk).1
  have hga : v.ownBlock = some ga ∨ ga = w7.heap.size := hr.block ga rfl
  have hfun : (fun i => [Value.slice (if i = L.length then a2 else A i) ((L ++ [x]).getD i []).length (if i = L.length then c2 else C i)]) = setL (fun i => [.slice (A i) (L.getD i []).length (C i)]) L.length [.slice a2 x.length c2] := by
    funext i
    rw [snoc_get]
    unfold setL
    by_cases hi : i = L.length
    · simp [hi]
    · simp [hi]
  have hold : ∀ i g, i < L.length → L.getD i [] ≠ [] → A i = some ⟨g, 0, none⟩ → g < wr.heap.size := fun i g hi hne e => by
    obtain ⟨g', e', hc, _⟩ := h.blk i hi hne
    rw [e] at e'
    injection e' with e'
    injection e' with e'
    subst e'
    exact hc.lt
  have hnew : x ≠ [] → ∀ g, a2 = some ⟨g, 0, none⟩ → v.ownBlock ≠ some g := fun hne g e e2 => by
    have := hx2 hne g e; have := hMv g e2; omega
  refine ⟨⟨by rw [hlen, hfun]; exact hr.own, fun g hg => hg⟩, fun i hi => ?_, fun i hi => ?_, fun i i' hi hi' => ?_, fun k hk => ?_⟩
  · rw [snoc_get]
    by_cases hi2 : i = L.length
    · simp only [if_pos hi2]
      exact hx.same fun g e hgl hne => hg.block g hgl (fun e2 => hnew hne g e e2.symm)
    · simp only [if_neg hi2]
      have hi3 : i < L.length := by omega
      rcases h.caps i hi3 with h0 | ⟨h0, g, h1, h2⟩
      · exact .inl h0
      · have := h2.lt
        exact .inr ⟨h0, g, h1, h2.same ((hg.block g (by omega) (fun e => (h.each i hi3 h0 g h1).2 e.symm)).trans (hb.block g h2.lt))⟩
  · rw [snoc_get]
    by_cases hi2 : i = L.length
    · simp only [if_pos hi2]
      intro hne g e
      refine ⟨by have := hx2 hne g e; omega, fun e2 => ?_⟩
      have e3 : ga = g := by simpa [Value.ownBlock] using e2
      rcases hga with h1 | h1
      · exact hnew hne g e (by rw [h1, e3])
      · rcases hx with ⟨h0, _⟩ | ⟨_, g', e', hc⟩
        · exact hne h0
        · rw [e] at e'
          injection e' with e'
          injection e' with e'
          subst e'
          have := hc.lt
          omega
    · simp only [if_neg hi2]
      have hi3 : i < L.length := by omega
      intro hne g e
      refine ⟨(h.each i hi3 hne g e).1, fun e2 => ?_⟩
      have e3 : ga = g := by simpa [Value.ownBlock] using e2
      rcases hga with h1 | h1
      · exact (h.each i hi3 hne g e).2 (by rw [h1, e3])
      · have := hold i g hi3 hne e; omega
  · rw [snoc_get, snoc_get]
    have hmix : ∀ j, j < L.length → L.getD j [] ≠ [] → x ≠ [] → A j ≠ a2 := fun j hj h1 h2 e => by
      obtain ⟨g, e1, hc, _⟩ := h.blk j hj h1
      have := hx2 h2 g (e ▸ e1)
      have := hM j g hj h1 e1
      omega
    by_cases h1 : i = L.length <;> by_cases h2 : i' = L.length
    · intro _ _ _; omega
    · simp only [if_pos h1, if_neg h2]
      exact fun q1 q2 q3 => absurd q3.symm (hmix i' (by omega) q2 q1)
    · simp only [if_neg h1, if_pos h2]
      exact fun q1 q2 q3 => absurd q3 (hmix i (by omega) q1 q2)
    · simp only [if_neg h1, if_neg h2]
      exact h.dist i i' (by omega) (by omega)
  · have e2 : ga = k := by simpa [Value.ownBlock] using hk
    rcases hga with h1 | h1
    · rw [← e2]; exact h.new ga h1
    · omega
/-- a reader stays as it is where a row of rows grows -/
theorem rd_row {w w' : World} {p q n : Nat} {bs : By} {e : Int} {S : Nat → Prop} {v : Value} {c : Nat → List Value} (h : Oc.RdAt w p q bs e) (hrow : RowIn S w 22 1 v n c) (hg : w.grownBy w' v.ownBlock) : Oc.RdAt w' p q bs e := by
  obtain ⟨A, d, h1, h2, h3, h4⟩ := h.rest.ex
  have hn : ∀ {k : Nat} {o : Obj}, w.heap[k]? = some o → (∀ cur, o ≠ .cells cur 22 (0, 0)) → w'.heap[k]? = w.heap[k]? := fun {k o} ho hne => hg.block k (Array.getElem?_eq_some_iff.1 ho).1 (fun e => hrow.ne_obj e.symm ho hne rfl)
  have hu : ∀ g off, A = some ⟨g, off, none⟩ → bs ≠ [] → w'.heap[g]? = w.heap[g]? := fun g off e hne => by
    obtain ⟨cur, hc⟩ := (h4 g off e).2 hne
    exact hn hc (fun cur' e => by injection e with _ e2; revert e2; decide)
  refine ⟨(hn h.own (fun cur e => by injection e with _ e2; revert e2; decide)).trans h.own, A, d, (hn h1 (fun cur e => by injection e with _ e2; revert e2; decide)).trans h1, fun hne => ?_, h3, fun g off e => ⟨(h4 g off e).1, fun hne => by obtain ⟨cur, hc⟩ := (h4 g off e).2 hne; exact ⟨cur, (hu g off e hne).trans hc⟩⟩⟩
  obtain ⟨g, off, e1, e2, e3⟩ := h2 hne
  exact ⟨g, off, e1, Nat.lt_of_lt_of_le e2 hg.size, fun i u hi => (World.cell?_of_block (a := ⟨g, off + i, none⟩) (hu g off e1 hne)).trans (e3 i u hi)⟩

end Go.Proofs.YtkmpchffflemcaaGreatDoor.En
end

/- Layer 31: server.Cut, any bytes. -/
section
set_option linter.unusedVariables false
set_option linter.unusedSimpArgs false
namespace Go.Proofs.YtkmpchffflemcaaGreatDoor.En
open Go.RowKit
open Go.Proofs.YtkmpchffflemcaaGreatDoor.Oc (le val Bs okA Of_in RdAt RdOut tk tk_ok RTwo_in RTakeC_in RcOut CapAt RLeft_in val_bound tk_len)

def CutOut (b : By) (w : World) (e : Ending) (w' : World) : Prop := ∃ v A C, e = .returned (.tuple #[v, .int .i64 (cutP b).2.1, .int .i64 (cutP b).2.2]) ∧ RowsAt w.heap.size w' v (cutP b).1 A C ∧ Below w.heap.size w w'
set_option maxRecDepth 100000 in
set_option maxHeartbeats 8000000 in
theorem Cut_in (b : By) (A : Option Addr) (c : Nat) (w : World) (hB : Bs w A b) (hA : okA A) (hl : b.length ≤ 1000000000) : Calls Tryz.prog 5 #[.slice A b.length c] w (CutOut b w) := by
  have HOF := Lib.hid (Of_in b A c w hB hA (by omega))
  obtain ⟨j0, hj, hz0, hz1, hz2⟩ := info_parts rows_info
  clear hB hA
  go_enter Tryz.func5, Tryz.ntmps5
  go_wp2_with fail
  refine HOF.out.mono ?_
  rintro e w1 ⟨p, q, rfl, hrd, hp, hq, hb1⟩
  have HB1 := Lib.hid hb1; have HRD := Lib.hid hrd; have HP := Lib.hid (show w.heap.size ≤ p ∧ w.heap.size ≤ q from ⟨hp, hq⟩)
  clear hrd hp hq hb1 HOF
  go_wp2_with fail
  go_loopw [5, 7] (fun v t wr => ∃ (L : List By) (AA : Nat → Option Addr) (C : Nat → Nat) (n : Nat) (r : By), t = .int .i64 n ∧ RowsAt w.heap.size wr v L AA C ∧ RdAt wr p q r 0 ∧ Below w.heap.size w wr ∧ n + r.length = b.length ∧ 2 * L.length ≤ n ∧ cutP b = (L ++ (cutP r).1, n + (cutP r).2.1, (cutP r).2.2)) (fun _ t _ => (b.length - intOf t).toNat)
  case atStart => exact ⟨[], fun _ => none, fun _ => 0, 0, b, rfl, RowsAt.nil _ _, HRD.out, HB1.out, by simp, by simp, by simp⟩
  case round =>
    obtain ⟨L, AA, C, n, r, rfl, hO, hrd, hb, hn, hL, hc⟩ := hrel
    have HO := Lib.hid hO; have HR := Lib.hid hrd; have HB := Lib.hid hb; have HC := Lib.hid hc
    clear hO hrd hb hc
    have HLF := Lib.hid (RLeft_in p q r 0 wr HR.out)
    by_cases h2 : 2 ≤ r.length
    · have htk : tk r 0 2 = (r.take 2, r.drop 2, 0) := tk_ok h2
      have HTW := Lib.hid (RTwo_in p q r 0 wr HR.out)
      unfold RdOut at HTW
      rw [htk] at HTW
      simp only at HTW
      obtain ⟨k, hk⟩ : ∃ k, val (r.take 2) = k := ⟨_, rfl⟩
      have hk2 : k < 65536 := by rw [← hk]; exact val_bound (k := 2) (by simp; omega)
      have hkw : IntKind.i64.wrap (k : Int) = (k : Int) := by rw [IntKind.wrap_i64]; omega
      have hr2 : decide ((2 : Int) ≤ (r.length : Int)) = true := decide_eq_true (by omega)
      rw [hk] at HTW
      have HK := Lib.hid hk
      obtain ⟨r2, hr2e⟩ : ∃ r2, r.drop 2 = r2 := ⟨_, rfl⟩
      rw [hr2e] at HTW
      have HE2 := Lib.hid hr2e
      have HL2 := Lib.hid (show r2.length + 2 = r.length by rw [← hr2e]; simp; omega)
      have HN := Lib.hid (show n + r.length = b.length ∧ 2 * L.length ≤ n ∧ 2 ≤ r.length from ⟨hn, hL, h2⟩)
      clear htk hk hr2e
      go_wp2_with fail
      refine HLF.out.mono ?_
      rintro e wq ⟨rfl, hwq⟩
      rw [hwq]
      clear hwq wq
      go_wp2_with fail
      refine HTW.out.mono ?_
      rintro e w2 ⟨rfl, hrd2, ht2⟩
      have HR2 := Lib.hid hrd2
      have HB2 := Lib.hid (show Below w.heap.size w w2 from Tch.fresh ht2 HB.out (fun j hj => by have := HP.out; omega))
      have HO2 := Lib.hid (show RowsAt w.heap.size w2 u5 L AA C from by obtain ⟨A', c', a1, _⟩ := HR.out.rest.ex; exact HO.out.one ht2 a1 (by decide) (by decide))
      have HLF2 := Lib.hid (RLeft_in p q (r2) 0 w2 hrd2)
      clear hrd2 ht2 HTW HLF hr2
      by_cases hk6 : k ≤ 64
      · have k1 : ¬ (64 : Int) < (k : Int) := by omega
        by_cases hm : k ≤ r2.length
        · have hm' : ¬ (r2.length : Int) < (k : Int) := by omega
          have HTA := Lib.hid (RTakeC_in p q k (r2) w2 HR2.out hm (by have := HN.out; have := HL2.out; omega))
          unfold Oc.RcOut at HTA
          obtain ⟨x, hxe⟩ : ∃ x, r2.take k = x := ⟨_, rfl⟩
          rw [hxe] at HTA
          have HXE := Lib.hid hxe
          have HLT := Lib.hid (show x.length = k by rw [← hxe]; simp; omega)
          clear hxe
          have HKM := Lib.hid (show k ≤ 64 ∧ k ≤ r2.length ∧ n + k ≤ 1000000000 from ⟨hk6, hm, by have := HN.out; have := HL2.out; omega⟩)
          go_wp2_with fail
          refine HLF2.out.mono ?_
          rintro e wq ⟨rfl, hwq⟩
          rw [hwq]
          clear hwq wq
          go_wp2_with fail
          refine HTA.out.mono ?_
          rintro e w3 ⟨A2, c2, rfl, hx, hx2, hrd3, ht3⟩
          have HR3 := Lib.hid hrd3
          have HB3 := Lib.hid (show Below w.heap.size w w3 from Tch.fresh ht3 HB2.out (fun j hj => by have := HP.out; omega))
          have HO3 := Lib.hid (show RowsAt w.heap.size w3 u5 L AA C from by obtain ⟨A', c', a1, _⟩ := HR2.out.rest.ex; exact HO2.out.one ht3 a1 (by decide) (by decide))
          have HX3 := Lib.hid (show CapAt w3 A2 x c2 ∧ (x ≠ [] → ∀ g, A2 = some ⟨g, 0, none⟩ → w2.heap.size ≤ g) from ⟨hx, hx2⟩)
          have HZ3 := Lib.hid ht3.size
          have HO4 := Lib.hid (HO3.out.keep (ext_alloc (Below.refl _ w3) (.cells #[.slice A2 x.length c2] 22)))
          clear hx hx2 hrd3 ht3 HTA hm hm' k1
          go_wp2_with (refine wpList_append_elem _ rfl (.tmp 25) (.tmp 29) 24 rfl 22 j0 (.slice none 0 0) 1 24 Tryz.underlying24 hj hz0 hz1 hz2 rfl (by decide) u5 L.length _ rfl HO4.out.row ⟨w3.heap.size, 0, none⟩ 1 [.slice A2 x.length c2] rfl rfl (news_any w3 _ _) (by intro u hu; simp at hu; subst hu; rfl) (by have := HN.out; unfold maxLen; omega) (by have := HN.out; omega) ?_; intro ga ca w8 hr8 hg8; have HN8 := Lib.hid (show RowIn _ w8 _ _ _ _ _ ∧ (w3.alloc (.cells #[.slice A2 x.length c2] 22)).grownBy w8 u5.ownBlock from ⟨hr8, hg8⟩); clear hr8 hg8)
          go_roundw
          case rel =>
            have hb3 := ext_alloc (Below.refl _ w3) (.cells #[.slice A2 x.length c2] 22)
            have hs := HO3.out.snoc (x := x) (a2 := A2) (c2 := c2) (ga := ga) (ca := ca) hb3 (HX3.out.1.same fun g _ hg _ => hb3.block g hg) w2.heap.size (fun i g hi hne e => by obtain ⟨g', e', hc, _⟩ := HO2.out.blk i hi hne; rw [e] at e'; injection e' with e'; injection e' with e'; subst e'; exact hc.lt) (fun k hk => (own_lt HO2.out.row.own hk).1) HB2.out.size (fun hne g e => HX3.out.2 hne g e) HB3.out.size HN8.out.1 HN8.out.2
            have hL1 : (L ++ [x]).length = L.length + 1 := by simp
            refine ⟨L ++ [x], _, _, n + (2 + k), r2.drop k, by simp, hs, rd_row (HR3.out.keep hb3) HO4.out.row HN8.out.2, (ext_trans HB3.out hb3).grown HN8.out.2 (ext_trans HB3.out hb3).size (fun j e => HO3.out.new j e), ?_, ?_, ?_⟩
            · have := HN.out; have := HL2.out; have := HKM.out; simp; omega
            · have := HN.out; rw [hL1]; omega
            · have h5 := cutP_piece HN.out.2.2 (by rw [HK.out]; exact HKM.out.1) (by rw [HK.out, HE2.out]; exact HKM.out.2.1)
              rw [HK.out, HE2.out, HXE.out] at h5
              rw [HC.out, h5]
              simp [Nat.add_assoc]
          case measure => simp [intOf]; have := HN.out; have := HL2.out; have := HKM.out; omega
        · have hm' : (r2.length : Int) < (k : Int) := by omega
          have HF := Lib.hid (show CutOut b w (.returned (.tuple #[u5, .int .i64 (n : Int), .int .i64 0])) w2 from ⟨u5, AA, C, by rw [HC.out, cutP_part h2 (by rw [HK.out]; omega) (by rw [HK.out, HE2.out]; omega)]; simp, by rw [HC.out, cutP_part h2 (by rw [HK.out]; omega) (by rw [HK.out, HE2.out]; omega)]; simpa using HO2.out, HB2.out⟩)
          go_wp2_with fail
          refine HLF2.out.mono ?_
          rintro e wq ⟨rfl, hwq⟩
          rw [hwq]
          clear hwq wq
          go_wp2_with fail
          refine bodyPost_ret (results_tmp3 rfl _ _) rfl ?_
          exact HF.out
      · have k1 : (64 : Int) < (k : Int) := by omega
        have HF := Lib.hid (show CutOut b w (.returned (.tuple #[u5, .int .i64 (n : Int), .int .i64 3])) w2 from ⟨u5, AA, C, by rw [HC.out, cutP_long h2 (by rw [HK.out]; omega)]; simp, by rw [HC.out, cutP_long h2 (by rw [HK.out]; omega)]; simpa using HO2.out, HB2.out⟩)
        go_wp2_with fail
        refine bodyPost_ret (results_tmp3 rfl _ _) rfl ?_
        exact HF.out
    · have hr2 : decide ((2 : Int) ≤ (r.length : Int)) = false := decide_eq_false (by omega)
      have HF := Lib.hid (show CutOut b w (.returned (.tuple #[u5, .int .i64 (n : Int), .int .i64 0])) wr from ⟨u5, AA, C, by rw [HC.out, cutP_end (by omega)]; simp, by rw [HC.out, cutP_end (by omega)]; simpa using HO.out, HB.out⟩)
      go_wp2_with fail
      refine HLF.out.mono ?_
      rintro e wq ⟨rfl, hwq⟩
      rw [hwq]
      clear hwq wq
      go_wp2_with fail
      refine bodyPost_ret (results_tmp3 rfl _ _) rfl ?_
      exact HF.out

end Go.Proofs.YtkmpchffflemcaaGreatDoor.En
end

/- A row of bytes that is its holder's own: any part of a block; bytes are appended. -/
section
set_option linter.unusedVariables false
set_option linter.unusedSimpArgs false
namespace Go.Proofs.YtkmpchffflemcaaGreatDoor.Oc
open Go.RowKit

/-- a holder's own bytes: a part of a block -/
structure Buf (w : World) (A : Option Addr) (c : Nat) (bs : List UInt8) (S : Nat → Prop) : Prop where
  ex : (A = none ∧ c = 0 ∧ bs = []) ∨ ∃ g off cur, A = some ⟨g, off, none⟩ ∧ Arr w g 5 cur ∧ off + c ≤ cur.size ∧ bs.length ≤ c ∧ (∀ j u, (bytesV bs)[j]? = some u → cur[off + j]? = some u) ∧ S g
theorem Buf.len {w : World} {A : Option Addr} {c : Nat} {bs : List UInt8} {S : Nat → Prop} (h : Buf w A c bs S) : bs.length ≤ c := by
  rcases h.ex with ⟨_, rfl, rfl⟩ | ⟨g, off, cur, _, _, _, h1, _⟩
  · exact Nat.le_refl _
  · exact h1
theorem Buf.bs {w : World} {A : Option Addr} {c : Nat} {bs : List UInt8} {S : Nat → Prop} (h : Buf w A c bs S) : Bs w A bs := fun hne => by
  rcases h.ex with ⟨_, _, rfl⟩ | ⟨g, off, cur, rfl, h1, _, _, h2, _⟩
  · exact absurd rfl hne
  · exact ⟨g, off, rfl, h1.lt, fun i u hi => by rw [h1.cell (off + i)]; exact h2 i u hi⟩
theorem Buf.okA {w : World} {A : Option Addr} {c : Nat} {bs : List UInt8} {S : Nat → Prop} (h : Buf w A c bs S) : okA A := by
  rcases h.ex with ⟨rfl, _, _⟩ | ⟨g, off, cur, rfl, _⟩
  · exact okA_none
  · exact okA_some _ _
theorem Buf.same {w w' : World} {A : Option Addr} {c : Nat} {bs : List UInt8} {S : Nat → Prop} (h : Buf w A c bs S) (hk : ∀ g, S g → g < w.heap.size → w'.heap[g]? = w.heap[g]?) : Buf w' A c bs S := by
  rcases h.ex with h | ⟨g, off, cur, h0, h1, h2, h3, h4, h5⟩
  · exact ⟨.inl h⟩
  · exact ⟨.inr ⟨g, off, cur, h0, (hk g h5 h1.lt).trans h1, h2, h3, h4, h5⟩⟩
theorem Buf.mono {w : World} {A : Option Addr} {c : Nat} {bs : List UInt8} {S T : Nat → Prop} (h : Buf w A c bs S) (hST : ∀ g, S g → T g) : Buf w A c bs T := by
  rcases h.ex with h | ⟨g, off, cur, h0, h1, h2, h3, h4, h5⟩
  · exact ⟨.inl h⟩
  · exact ⟨.inr ⟨g, off, cur, h0, h1, h2, h3, h4, hST g h5⟩⟩
theorem Buf.self {w : World} {A : Option Addr} {c : Nat} {bs : List UInt8} {S : Nat → Prop} (h : Buf w A c bs S) : Buf w A c bs (fun k => ∃ off, A = some ⟨k, off, none⟩) := by
  rcases h.ex with h | ⟨g, off, cur, h0, h1, h2, h3, h4, h5⟩
  · exact ⟨.inl h⟩
  · exact ⟨.inr ⟨g, off, cur, h0, h1, h2, h3, h4, off, h0⟩⟩
theorem Buf.foot {w : World} {A : Option Addr} {c : Nat} {bs : List UInt8} {S : Nat → Prop} (h : Buf w A c bs S) {k off : Nat} (hk : A = some ⟨k, off, none⟩) : S k ∧ k < w.heap.size ∧ ∀ t cs, Arr w k t cs → t = 5 := by
  rcases h.ex with ⟨h0, _⟩ | ⟨g, off', cur, h0, h1, _, _, _, h5⟩
  · rw [h0] at hk; cases hk
  · rw [h0] at hk
    injection hk with hk
    injection hk with e _
    subst e
    refine ⟨h5, h1.lt, fun t cs h => ?_⟩
    unfold Arr at h h1
    rw [h1] at h
    injection h with h
    injection h with _ h _
    exact h.symm
theorem Buf.drop {w : World} {A : Option Addr} {c : Nat} {bs : List UInt8} {S : Nat → Prop} {g off : Nat} (h : Buf w (some ⟨g, off, none⟩) c bs S) {n : Nat} (hn : n ≤ bs.length) : Buf w (some ⟨g, off + n, none⟩) (c - n) (bs.drop n) S := by
  rcases h.ex with ⟨h0, _, _⟩ | ⟨g', off', cur, h0, h1, h2, h3, h4, h5⟩
  · cases h0
  · injection h0 with h0
    injection h0 with e1 e2
    subst e1 e2
    refine ⟨.inr ⟨g, off + n, cur, rfl, h1, by omega, by rw [List.length_drop]; omega, fun j u hj => ?_, h5⟩⟩
    rw [show off + n + j = off + (n + j) by omega]
    exact h4 (n + j) u (by simpa [bytesV] using hj)
theorem Buf.zero {w : World} {A : Option Addr} {c : Nat} {bs : List UInt8} {S : Nat → Prop} (h : Buf w A c bs S) : Buf w A 0 [] S := by
  rcases h.ex with ⟨h0, _, _⟩ | ⟨g, off, cur, h0, h1, h2, h3, h4, h5⟩
  · exact ⟨.inl ⟨h0, rfl, rfl⟩⟩
  · exact ⟨.inr ⟨g, off, cur, h0, h1, by omega, Nat.le_refl _, fun j u hj => by simp [bytesV] at hj, h5⟩⟩
theorem Buf.none (w : World) (S : Nat → Prop) : Buf w none 0 [] S := ⟨.inl ⟨rfl, rfl, rfl⟩⟩
/-- nothing is appended -/
theorem run_app_none {w : World} (ty : TypeId) (A B : Option Addr) (n c d : Nat) (h : n ≤ c) : (Builtin.append_ #[22, 22] ty #[.slice A n c, .slice B 0 d]).run Tryz.prog w = .ok (.slice A n c) w := by
  obtain ⟨i0, hi, hz0, hz1, hz2⟩ := info_parts u8_info
  cases B with
  | none => cases A <;> simp [Builtin.append_, run_underlying Tryz.underlying22, sizeOf, typeInfo, hi, Builtin.lenOf, h, Builtin.firstCells, storeCells]
  | some b =>
    have hfc := run_firstCells_some (P := Tryz.prog) w i0.size 0 b 0 d [] (by simp) (by simp)
    cases A <;> simp [Builtin.append_, run_underlying Tryz.underlying22, sizeOf, typeInfo, hi, Builtin.lenOf, h, hfc, storeCells]
/-- bytes are appended to a holder's own -/
theorem wp_buf (w : World) {ops : Array Oper} {rest : List Oper} {o : Oper} {a : Act} {Q : Exit → Act → World → Prop} (hg : o.guard = none) (s x : Operand)
    (hop : o.op = Op.call { callee := Callee.builtin Builtin.append, args := #[s, x], argTypes := #[22, 22] }) {A : Option Addr} {c n m d : Nat} {bs cs : List UInt8} {B : Option Addr} {S : Nat → Prop} (h : Buf w A c bs S) (hs : a.eval s = .slice A n c) (hn : n = bs.length)
    (hx : a.eval x = .slice B m d) (hm : m = cs.length) (hC : Bs w B cs) (hl : bs.length + cs.length ≤ 1000000000)
    (hK : ∀ A' c' w', Buf w' A' c' (bs ++ cs) (fun k => S k ∨ w.heap.size ≤ k) → Tch S w w' → wpList Tryz.prog ops Q rest (a.put o.dst (.slice A' (bs ++ cs).length c')) w') : wpList Tryz.prog ops Q (o :: rest) a w := by
  obtain ⟨i0, hi, hz0, hz1, hz2⟩ := info_parts u8_info
  subst hn hm
  by_cases hne : cs = []
  · subst hne
    refine wpList_plain hg fun K hK' => ?_
    have hrun := run_app_none (w := w) o.type A B bs.length c d h.len
    unfold Oper.wp
    simp [execOp, hop, resolve, invoke, builtin, hs, hx, hrun, Result.andThen]
    have := hK A c w (by simpa using h.mono fun g hg => .inl hg) (Tch.refl S w)
    simp at this
    exact hK' _ _ this
  · obtain ⟨g2, off2, rfl, hg2, hc2⟩ := hC hne
    have hnews : ∀ j u, (bytesV cs)[j]? = some u → w.cell? ((⟨g2, off2, none⟩ : Addr).add j) = some u := fun j u hj => by rw [Addr.add_lit]; exact hc2 j u hj
    have fin : ∀ v' w', w'.ownsRow w.heap.size 5 1 v' (bs.length + cs.length) (bytesV bs ++ bytesV cs) → w.grownBy w' none → wpList Tryz.prog ops Q rest (a.put o.dst v') w' := fun v' w' ho hgr => by
      have hv : v' ≠ .slice none 0 0 := by
        rintro rfl
        rcases ho.2 with ⟨_, h0⟩ | ⟨_, _, _, h0, _⟩
        · have := List.length_pos_iff.2 hne; omega
        · cases h0
      rcases ho.2 with ⟨h0, _⟩ | ⟨g, cap, cur, rfl, hb, hh, h1, h2, h3, h4⟩
      · exact absurd h0 hv
      · have hk := hK (some ⟨g, 0, none⟩) cap w' ⟨.inr ⟨g, 0, cur, rfl, hh, by omega, by rw [List.length_append]; omega, fun j u hj => ?_, .inr hb⟩⟩ ((Tch.refl S w).grown hgr (fun k e => by cases e))
        · rw [List.length_append] at hk
          exact hk
        · rw [Nat.zero_add, ← Array.getElem?_toList]
          have hj2 : j < bs.length + cs.length := by have := (List.getElem?_eq_some_iff.1 hj).1; rw [bytesV_len, List.length_append] at this; exact this
          rw [← List.getElem?_take_of_lt (i := j) (j := (bs.length + cs.length) * 1) (by omega), h4, ← bytesV_app]
          exact hj
    have b1 : bs.length + cs.length ≤ maxLen := by unfold maxLen; omega
    have b2 : (bs.length + cs.length) * 1 ≤ 140737488355328 := by omega
    have hnl : (bytesV cs).length = cs.length * 1 := by rw [bytesV_len, Nat.mul_one]
    rcases h.ex with ⟨rfl, rfl, rfl⟩ | ⟨g, off, cur, rfl, hA, hsz, hlc, hin, hSg⟩
    · obtain ⟨v', w', hrun, r1, r2, _⟩ := run_append_own (P := Tryz.prog) w w.heap.size 22 o.type 5 i0 (.int .u8 0) 1 1 Tryz.underlying22 hi hz0 hz1 hz2 rfl (by decide) (.slice none 0 0) 0 [] (World.ownsRow_nil w _ 5 1) ⟨g2, off2, none⟩ cs.length d (bytesV cs) hnl hnews (bytesV_one cs) (by simpa using b1) (by simpa using b2) (Nat.le_refl _)
      refine wpList_plain hg fun K hK' => ?_
      unfold Oper.wp
      simp only [List.length_nil] at hs
      simp [execOp, hop, resolve, invoke, builtin, hs, hx, hrun, Result.andThen]
      exact hK' _ _ (fin v' w' (by simpa [bytesV] using r1) r2)
    · refine wpList_append_arg w hg s x 22 hop 5 i0 (.int .u8 0) 1 1 Tryz.underlying22 hi hz0 hz1 hz2 rfl (by decide) g off bs.length c (bytesV bs) hs (by rw [bytesV_len, Nat.mul_one]) (fun j u hj => by rw [hA.cell]; exact hin j u hj) ⟨g2, off2, none⟩ cs.length d (bytesV cs) hx hnl hnews (bytesV_one cs)
        (fun hr j hj => ?_) b1 b2 (fun hr => ?_) (fun hr v' w' ho hgr => fin v' w' ho hgr)
      · rw [bytesV_len] at hj
        refine ⟨?_, hA.mark _⟩
        rw [hA.cell, Array.getElem?_eq_getElem (by omega)]
        rfl
      · have hp := arr_part hA (off + bs.length * 1) (bytesV cs) (by rw [bytesV_len]; omega)
        have hT : Tch S w (w.setCells g (off + bs.length * 1) (bytesV cs)) := (Tch.refl S w).grown (only_setCells g (bytesV cs) (off + bs.length * 1) w).1 (fun k e => by injection e with e; subst e; exact .inl hSg)
        have hk := hK (some ⟨g, off, none⟩) c (w.setCells g (off + bs.length * 1) (bytesV cs)) ⟨.inr ⟨g, off, _, rfl, hp, ?_, by rw [List.length_append]; omega, fun j u hj => ?_, .inl hSg⟩⟩ hT
        · rw [List.length_append] at hk
          exact hk
        · unfold part
          simp only [List.size_toArray, List.length_append, List.length_take, List.length_drop, Array.length_toList, bytesV_len]
          omega
        · rw [← hp.cell]
          rw [bytesV_app] at hj
          rcases Nat.lt_or_ge j bs.length with hj2 | hj2
          · rw [World.cell?_setCells_out g (bytesV cs) (off + bs.length * 1) w ⟨g, off + j, none⟩ (fun _ _ => .inl (by show off + j < _; omega)), hA.cell]
            rw [List.getElem?_append_left (by rw [bytesV_len]; exact hj2)] at hj
            exact hin j u hj
          · rw [List.getElem?_append_right (by rw [bytesV_len]; exact hj2), bytesV_len] at hj
            have hj3 := (List.getElem?_eq_some_iff.1 hj).1
            have h9 := World.cell?_setCells_in g (bytesV cs) (off + bs.length * 1) w (fun k hk => by rw [hA.cell, Array.getElem?_eq_getElem (by rw [bytesV_len] at hk; omega)]; rfl) (j - bs.length) hj3
            rw [show off + bs.length * 1 + (j - bs.length) = off + j by omega] at h9
            rw [h9, ← hj, List.getElem?_eq_getElem hj3]

end Go.Proofs.YtkmpchffflemcaaGreatDoor.Oc
end

/- Layer 1: octets: a writer that lies inside another value. -/
section
set_option linter.unusedVariables false
set_option linter.unusedSimpArgs false
namespace Go.Proofs.YtkmpchffflemcaaGreatDoor.Oc
open Go.RowKit

/-- a value whose cell o is the writer's -/
structure FrOk (F : Value → Array Value) (o : Nat) : Prop where
  get : ∀ v, (F v)[o]? = some v
  put : ∀ v u, (F v).setIfInBounds o u = F u
structure WrF (F : Value → Array Value) (o : Nat) (t : TypeId) (w : World) (p : Nat) (bs : List UInt8) : Prop where
  ex : ∃ A c, Arr w p t (F (.slice A bs.length c)) ∧ Bs w A bs ∧ (A = none → bs = [] ∧ c = 0) ∧ bs.length ≤ c ∧ okA A ∧ (∀ g off, A = some ⟨g, off, none⟩ → g ≠ p)
section
variable {F : Value → Array Value} {o : Nat} {t : TypeId}
theorem WrF.keep {w w' : World} {p : Nat} {bs : List UInt8} (h : WrF F o t w p bs) (hb : Below w.heap.size w w') : WrF F o t w' p bs := by
  obtain ⟨A, c, h1, h2, h3⟩ := h.ex
  exact ⟨A, c, h1.keep hb, h2.keep hb, h3⟩
def AdF (F : Value → Array Value) (o : Nat) (t : TypeId) (p : Nat) (bs : List UInt8) (w : World) (e : Ending) (w' : World) : Prop := (∃ u, e = .returned u) ∧ WrF F o t w' p bs ∧ Tch (· = p) w w' ∧ ∀ A c, w'.cell? ⟨p, o, none⟩ = some (.slice A bs.length c) → ∀ g off, A = some ⟨g, off, none⟩ → w.heap.size ≤ g
set_option maxRecDepth 100000 in
set_option maxHeartbeats 2000000 in
theorem addF_in (hF : FrOk F o) (p : Nat) (bs cs : List UInt8) (ad : Addr) (d : Nat) (w : World) (h : WrF F o t w p bs) (hc : Bs w (some ad) cs) (hne : cs ≠ []) (hl : bs.length + cs.length ≤ 70000000) :
    Calls Tryz.prog 209 #[.pointer (some ⟨p, o, none⟩), .slice (some ad) cs.length d] w (AdF F o t p (bs ++ cs) w) := by
  obtain ⟨A, c, h1, h2, h3, h4, h5, h6⟩ := h.ex
  have x0 : w.cell? ⟨p, o, none⟩ = some (.slice A bs.length c) := (h1.cell o).trans (hF.get _)
  have m0 := h1.mark o
  have hpl := h1.lt
  have hcl : 0 < cs.length := List.length_pos_iff.2 hne
  have hcap : (bs.length : Int) ≤ (c : Int) := by omega
  have H1 := Lib.hid h1; have H2 := Lib.hid h2; have H3 := Lib.hid h3; have H5 := Lib.hid h5; have H6 := Lib.hid h6; have HC := Lib.hid hc
  have HFF := Lib.hid hF
  clear h h1 h2 h3 h5 h6 hc hF
  go_enter Tryz.func209, Tryz.ntmps209
  go_wp2_with fail
  refine region_any_drew (by kernel_rfl) ?_
  refine AnyTill.any (S := (fun w' => w'.cell? ⟨p, o, none⟩ = some (.slice A bs.length c))) (t := 20) _ _ _ _ ?_
  have hHeld := (show (fun w' => w'.cell? ⟨p, o, none⟩ = some (.slice A bs.length c)) w.drew from x0)
  refine till_take (i := 0) (oi := ?o1) (d := (some 6)) (v := ?v1) ?hi1 (by kernel_rfl) (by kernel_rfl) (by kernel_rfl) (by kernel_rfl) (by kernel_rfl) (fun _ _ _ h => h) ?hd1 ?hw1 ?hy1 hHeld ?_
  case hi1 => (simp only [List.getElem?_toArray, List.getElem?_cons_zero]; exact rfl)
  case hd1 => rfl
  case hw1 => rfl
  case hy1 => (intro w hSw; (try dsimp only at hSw); go_simp; try with_reducible rfl)
  try simp only [Act.put, List.setIfInBounds_toArray, List.set_cons_zero, List.set_cons_succ]
  refine till_take (i := 1) (oi := ?o2) (d := (some 7)) (v := ?v2) ?hi2 (by kernel_rfl) (by kernel_rfl) (by kernel_rfl) (by kernel_rfl) (by kernel_rfl) (fun _ _ _ h => h) ?hd2 ?hw2 ?hy2 hHeld ?_
  case hi2 => (simp only [List.getElem?_toArray, List.getElem?_cons_zero, List.getElem?_cons_succ]; exact rfl)
  case hd2 => rfl
  case hw2 => rfl
  case hy2 => (intro w hSw; (try dsimp only at hSw); go_simp; try with_reducible rfl)
  try simp only [Act.put, List.setIfInBounds_toArray, List.set_cons_zero, List.set_cons_succ]
  refine till_take (i := 2) (oi := ?o3) (d := (some 8)) (v := ?v3) ?hi3 (by kernel_rfl) (by kernel_rfl) (by kernel_rfl) (by kernel_rfl) (by kernel_rfl) (fun _ _ _ h => h) ?hd3 ?hw3 ?hy3 hHeld ?_
  case hi3 => (simp only [List.getElem?_toArray, List.getElem?_cons_zero, List.getElem?_cons_succ]; exact rfl)
  case hd3 => rfl
  case hw3 => rfl
  case hy3 => (intro w hSw; (try dsimp only at hSw); go_simp; try with_reducible rfl)
  try simp only [Act.put, List.setIfInBounds_toArray, List.set_cons_zero, List.set_cons_succ]
  refine till_take (i := 3) (oi := ?o4) (d := (some 9)) (v := ?v4) ?hi4 (by kernel_rfl) (by kernel_rfl) (by kernel_rfl) (by kernel_rfl) (by kernel_rfl) (fun _ _ _ h => h) ?hd4 ?hw4 ?hy4 hHeld ?_
  case hi4 => (simp only [List.getElem?_toArray, List.getElem?_cons_zero, List.getElem?_cons_succ]; exact rfl)
  case hd4 => rfl
  case hw4 => rfl
  case hy4 => (intro w hSw; (try dsimp only at hSw); go_simp; try with_reducible rfl)
  try simp only [Act.put, List.setIfInBounds_toArray, List.set_cons_zero, List.set_cons_succ]
  refine till_take (i := 4) (oi := ?o5) (d := (some 10)) (v := ?v5) ?hi5 (by kernel_rfl) (by kernel_rfl) (by kernel_rfl) (by kernel_rfl) (by kernel_rfl) (fun _ _ _ h => h) ?hd5 ?hw5 ?hy5 hHeld ?_
  case hi5 => (simp only [List.getElem?_toArray, List.getElem?_cons_zero, List.getElem?_cons_succ]; exact rfl)
  case hd5 => rfl
  case hw5 => rfl
  case hy5 => (intro w hSw; (try dsimp only at hSw); go_simp; try with_reducible rfl)
  try simp only [Act.put, List.setIfInBounds_toArray, List.set_cons_zero, List.set_cons_succ]
  refine till_take (i := 5) (oi := ?o6) (d := (some 11)) (v := ?v6) ?hi6 (by kernel_rfl) (by kernel_rfl) (by kernel_rfl) (by kernel_rfl) (by kernel_rfl) (fun _ _ _ h => h) ?hd6 ?hw6 ?hy6 hHeld ?_
  case hi6 => (simp only [List.getElem?_toArray, List.getElem?_cons_zero, List.getElem?_cons_succ]; exact rfl)
  case hd6 => rfl
  case hw6 => rfl
  case hy6 => (intro w hSw; (try dsimp only at hSw); go_simp; try with_reducible rfl)
  try simp only [Act.put, List.setIfInBounds_toArray, List.set_cons_zero, List.set_cons_succ]
  refine till_take (i := 6) (oi := ?o7) (d := (some 12)) (v := ?v7) ?hi7 (by kernel_rfl) (by kernel_rfl) (by kernel_rfl) (by kernel_rfl) (by kernel_rfl) (fun _ _ _ h => h) ?hd7 ?hw7 ?hy7 hHeld ?_
  case hi7 => (simp only [List.getElem?_toArray, List.getElem?_cons_zero, List.getElem?_cons_succ]; exact rfl)
  case hd7 => rfl
  case hw7 => rfl
  case hy7 => (intro w hSw; (try dsimp only at hSw); go_simp; try with_reducible rfl)
  try simp only [Act.put, List.setIfInBounds_toArray, List.set_cons_zero, List.set_cons_succ]
  refine till_take (i := 7) (oi := ?o8) (d := (some 13)) (v := ?v8) ?hi8 (by kernel_rfl) (by kernel_rfl) (by kernel_rfl) (by kernel_rfl) (by kernel_rfl) (fun _ _ _ h => h) ?hd8 ?hw8 ?hy8 hHeld ?_
  case hi8 => (simp only [List.getElem?_toArray, List.getElem?_cons_zero, List.getElem?_cons_succ]; exact rfl)
  case hd8 => rfl
  case hw8 => rfl
  case hy8 => (intro w hSw; (try dsimp only at hSw); go_simp; try with_reducible rfl)
  try simp only [Act.put, List.setIfInBounds_toArray, List.set_cons_zero, List.set_cons_succ]
  refine till_take (i := 8) (oi := ?o9) (d := (some 14)) (v := ?v9) ?hi9 (by kernel_rfl) (by kernel_rfl) (by kernel_rfl) (by kernel_rfl) (by kernel_rfl) (fun _ _ _ h => h) ?hd9 ?hw9 ?hy9 hHeld ?_
  case hi9 => (simp only [List.getElem?_toArray, List.getElem?_cons_zero, List.getElem?_cons_succ]; exact rfl)
  case hd9 => rfl
  case hw9 => rfl
  case hy9 => (intro w hSw; (try dsimp only at hSw); go_simp; try with_reducible rfl)
  try simp only [Act.put, List.setIfInBounds_toArray, List.set_cons_zero, List.set_cons_succ]
  refine till_take (i := 9) (oi := ?o10) (d := (some 15)) (v := ?v10) ?hi10 (by kernel_rfl) (by kernel_rfl) (by kernel_rfl) (by kernel_rfl) (by kernel_rfl) (fun _ _ _ h => h) ?hd10 ?hw10 ?hy10 hHeld ?_
  case hi10 => (simp only [List.getElem?_toArray, List.getElem?_cons_zero, List.getElem?_cons_succ]; exact rfl)
  case hd10 => rfl
  case hw10 => rfl
  case hy10 => (intro w hSw; (try dsimp only at hSw); go_simp; try with_reducible rfl)
  try simp only [Act.put, List.setIfInBounds_toArray, List.set_cons_zero, List.set_cons_succ]
  refine till_take (i := 10) (oi := ?o11) (d := (some 16)) (v := ?v11) ?hi11 (by kernel_rfl) (by kernel_rfl) (by kernel_rfl) (by kernel_rfl) (by kernel_rfl) (fun _ _ _ h => h) ?hd11 ?hw11 ?hy11 hHeld ?_
  case hi11 => (simp only [List.getElem?_toArray, List.getElem?_cons_zero, List.getElem?_cons_succ]; exact rfl)
  case hd11 => rfl
  case hw11 => rfl
  case hy11 => (intro w hSw; (try dsimp only at hSw); go_simp; try with_reducible rfl)
  try simp only [Act.put, List.setIfInBounds_toArray, List.set_cons_zero, List.set_cons_succ]
  refine till_take (i := 11) (oi := ?o12) (d := (some 17)) (v := ?v12) ?hi12 (by kernel_rfl) (by kernel_rfl) (by kernel_rfl) (by kernel_rfl) (by kernel_rfl) (fun _ _ _ h => h) ?hd12 ?hw12 ?hy12 hHeld ?_
  case hi12 => (simp only [List.getElem?_toArray, List.getElem?_cons_zero, List.getElem?_cons_succ]; exact rfl)
  case hd12 => rfl
  case hw12 => rfl
  case hy12 => (intro w hSw; (try dsimp only at hSw); go_simp; try with_reducible rfl)
  try simp only [Act.put, List.setIfInBounds_toArray, List.set_cons_zero, List.set_cons_succ]
  refine till_take (i := 12) (oi := ?o13) (d := (some 18)) (v := ?v13) ?hi13 (by kernel_rfl) (by kernel_rfl) (by kernel_rfl) (by kernel_rfl) (by kernel_rfl) (fun _ _ _ h => h) ?hd13 ?hw13 ?hy13 hHeld ?_
  case hi13 => (simp only [List.getElem?_toArray, List.getElem?_cons_zero, List.getElem?_cons_succ]; exact rfl)
  case hd13 => rfl
  case hw13 => rfl
  case hy13 => (intro w hSw; (try dsimp only at hSw); go_simp; try with_reducible rfl)
  try simp only [Act.put, List.setIfInBounds_toArray, List.set_cons_zero, List.set_cons_succ]
  refine till_take (i := 13) (oi := ?o14) (d := (some 19)) (v := ?v14) ?hi14 (by kernel_rfl) (by kernel_rfl) (by kernel_rfl) (by kernel_rfl) (by kernel_rfl) (fun _ _ _ h => h) ?hd14 ?hw14 ?hy14 hHeld ?_
  case hi14 => (simp only [List.getElem?_toArray, List.getElem?_cons_zero, List.getElem?_cons_succ]; exact rfl)
  case hd14 => rfl
  case hw14 => rfl
  case hy14 => (intro w hSw; (try dsimp only at hSw); go_simp; try with_reducible rfl)
  try simp only [Act.put, List.setIfInBounds_toArray, List.set_cons_zero, List.set_cons_succ]
  refine till_take (i := 14) (oi := ?o15) (d := (some 20)) (v := ?v15) ?hi15 (by kernel_rfl) (by kernel_rfl) (by kernel_rfl) (by kernel_rfl) (by kernel_rfl) (fun _ _ _ h => h) ?hd15 ?hw15 ?hy15 hHeld ?_
  case hi15 => (simp only [List.getElem?_toArray, List.getElem?_cons_zero, List.getElem?_cons_succ]; exact rfl)
  case hd15 => rfl
  case hw15 => rfl
  case hy15 => (intro w hSw; (try dsimp only at hSw); go_simp; try with_reducible rfl)
  try simp only [Act.put, List.setIfInBounds_toArray, List.set_cons_zero, List.set_cons_succ]
  refine till_take (i := 15) (oi := ?o16) (d := (some 21)) (v := ?v16) ?hi16 (by kernel_rfl) (by kernel_rfl) (by kernel_rfl) (by kernel_rfl) (by kernel_rfl) (fun _ _ _ h => h) ?hd16 ?hw16 ?hy16 hHeld ?_
  case hi16 => (simp only [List.getElem?_toArray, List.getElem?_cons_zero, List.getElem?_cons_succ]; exact rfl)
  case hd16 => rfl
  case hw16 => rfl
  case hy16 => (intro w hSw; (try dsimp only at hSw); go_simp; try with_reducible rfl)
  try simp only [Act.put, List.setIfInBounds_toArray, List.set_cons_zero, List.set_cons_succ]
  refine till_take (i := 16) (oi := ?o17) (d := (some 22)) (v := ?v17) ?hi17 (by kernel_rfl) (by kernel_rfl) (by kernel_rfl) (by kernel_rfl) (by kernel_rfl) (fun _ _ _ h => h) ?hd17 ?hw17 ?hy17 hHeld ?_
  case hi17 => (simp only [List.getElem?_toArray, List.getElem?_cons_zero, List.getElem?_cons_succ]; exact rfl)
  case hd17 => rfl
  case hw17 => rfl
  case hy17 => (intro w hSw; (try dsimp only at hSw); go_simp; try with_reducible rfl)
  try simp only [Act.put, List.setIfInBounds_toArray, List.set_cons_zero, List.set_cons_succ]
  refine AnyTill.step (i := 17) (by kernel_rfl) (by kernel_rfl) rfl (fun K hK => ?_)
  rw [if_pos (by rfl)]
  refine wp_app1 _ (.tmp 21) (.tmp 22) rfl bs cs A bs.length bs.length rfl rfl (by rintro rfl; exact ⟨by rw [(H3.out rfl).1]; rfl, by rw [(H3.out rfl).1]; rfl⟩) H2.out ad cs.length d rfl rfl HC.out (by omega) (by omega) ?_
  intro g5 c5 w5 hg5 hb5 hx5 hc5
  have x5 : w5.cell? ⟨p, o, none⟩ = some (.slice A bs.length c) := (hx5.cell (p := ⟨p, o, none⟩) hpl).trans x0
  have m5 := (hx5.frozen (p := ⟨p, o, none⟩) hpl).trans m0
  have HG5 := Lib.hid hg5; have HB5 := Lib.hid hb5; have HX5 := Lib.hid hx5; have HC5 := Lib.hid hc5
  clear hg5 hb5 hx5 hc5
  refine hK.out _ _ (by exact x5) (fun hHeld17 => ?_)
  clear hK K
  try simp only [Act.put, List.setIfInBounds_toArray, List.set_cons_zero, List.set_cons_succ]
  refine till_pure (i := 18) (oi := ?o18) (d := (some 24)) (v := ?v18) ?hi18 (by kernel_rfl) (by kernel_rfl) (by kernel_rfl) (by kernel_rfl) (fun _ _ _ h => h) ?hd18 ?hw18 ?hy18 hHeld17 ?_
  case hi18 => (simp only [List.getElem?_toArray, List.getElem?_cons_zero, List.getElem?_cons_succ]; exact rfl)
  case hd18 => rfl
  case hw18 => rfl
  case hy18 => (intro w; go_simp; try with_reducible rfl)
  try simp only [Act.put, List.setIfInBounds_toArray, List.set_cons_zero, List.set_cons_succ]
  refine till_take (i := 19) (oi := ?o19) (d := (some 25)) (v := ?v19) ?hi19 (by kernel_rfl) (by kernel_rfl) (by kernel_rfl) (by kernel_rfl) (by kernel_rfl) (fun _ _ _ h => h) ?hd19 ?hw19 ?hy19 hHeld17 ?_
  case hi19 => (simp only [List.getElem?_toArray, List.getElem?_cons_zero, List.getElem?_cons_succ]; exact rfl)
  case hd19 => rfl
  case hw19 => rfl
  case hy19 => (intro w hSw; (try dsimp only at hSw); go_simp; try with_reducible rfl)
  try simp only [Act.put, List.setIfInBounds_toArray, List.set_cons_zero, List.set_cons_succ]
  refine AnyTill.last (by kernel_rfl) ?_
  refine any_drop 20 (by kernel_rfl) (by kernel_rfl) ?_
  simp only [List.drop_succ_cons, List.drop_zero]
  go_wp2_with fail
  have hb : Below w.heap.size w w5 := ext_trans (ext_drew (Below.refl _ _)) HX5.out
  have ha5 : Arr w5 p t (F (.slice A bs.length c)) := H1.out.keep hb
  have hg5 := HG5.out
  have hc5 := HC5.out
  refine bodyPost_end (results_none Tryz.results209 _ _ _) rfl ⟨⟨_, rfl⟩, ⟨some ⟨g5, 0, none⟩, c5, by have h9 := ha5.put o (.slice (some ⟨g5, 0, none⟩) (bs.length + cs.length) c5); rw [HFF.out.put] at h9; simpa using h9, ?_, (fun e => by cases e), by simpa using hc5, okA_some _ _, fun g off e => ?_⟩, ?_, ?_⟩
  · refine HB5.out.bs.tch (Tch.at w5 p o _) fun g off e _ e2 => ?_
    injection e with e; injection e with e
    have : w.heap.size ≤ g5 := hg5
    omega
  · injection e with e; injection e with e
    have : w.heap.size ≤ g5 := hg5
    omega
  · exact (Tch.of_below (S := (· = p)) (show Below w.heap.size w w5 from hb)).at2 o _
  · intro A' c' hc' g off e
    have h9 := (ha5.put o (.slice (some ⟨g5, 0, none⟩) (bs.length + cs.length) c5)).cell o
    rw [HFF.out.put, HFF.out.get] at h9
    rw [h9] at hc'
    injection hc' with hc'
    injection hc' with e1
    rw [← e1] at e
    injection e with e; injection e with e
    rw [← e]; exact hg5
set_option maxRecDepth 100000 in
set_option maxHeartbeats 1000000 in
theorem numberF_w (hF : FrOk F o) (p k n : Nat) (bs : List UInt8) (w : World) (h : WrF F o t w p bs) (hk : 1 ≤ k ∧ k ≤ 8) (hl : bs.length ≤ 67108900) (hn : n < 18446744073709551616) :
    Calls Tryz.prog 208 #[.pointer (some ⟨p, o, none⟩), .int .u64 n, .int .i64 k] w (AdF F o t p (bs ++ le n k) w) := by
  obtain ⟨i0, hi, hz0, hz1, hz2⟩ := info_parts u8_info
  have HH := Lib.hid h
  have hk1 : (1 : Int) ≤ (k : Int) := by omega
  have hk8 : (k : Int) ≤ 8 := by omega
  have hpl : p < w.heap.size := by obtain ⟨A, c, h1, _⟩ := h.ex; exact h1.lt
  clear h
  go_enter Tryz.func208, Tryz.ntmps208
  go_wp2_with (refine wpList_make_full _ rfl _ _ 22 rfl w.heap.size 5 i0 (.int .u8 0) 1 Tryz.underlying22 hi hz0 hz1 .i64 .i64 _ _ k rfl rfl rfl rfl (by rw [hz2]; omega) (by unfold maxLen; omega) (Nat.le_refl _) ?_; intro w5 hown5 hg5; have HO5 := Lib.hid hown5; have HG5 := Lib.hid hg5; clear hown5 hg5)
  have hb5 : Below w.heap.size w w5 := Below.grown (Below.refl _ _) HG5.out (Nat.le_refl _) (by simp)
  obtain ⟨gb, hgb⟩ : ∃ gb, w.heap.size = gb := ⟨_, rfl⟩
  have hrow : ∃ cs : Array Value, Arr w5 gb 5 cs ∧ cs.size = k := by
    rcases HO5.out.2 with ⟨h0, _⟩ | ⟨g', cap, cur, hv, hb, hh, hnc, hcm, hcs, ht⟩
    · cases h0
    · injection hv with e1 _ e2
      injection e1 with e1
      injection e1 with e1
      subst e1 e2
      rw [← hgb]
      exact ⟨cur, hh, by omega⟩
  have HB5 := Lib.hid hb5; have HROW := Lib.hid hrow; have HGB := Lib.hid hgb
  rw [hgb]
  clear hb5 hrow HO5 HG5 hgb
  go_loopw [12] (fun i wr => ∃ (j : Nat) (cs : Array Value), j ≤ k ∧ i = .int .i64 j ∧ Arr wr gb 5 cs ∧ cs.size = k ∧ (∀ (x : Nat) (u : Value), (bytesV (le n j))[x]? = some u → cs[x]? = some u) ∧ Below w.heap.size w wr) (fun i _ => (k - intOf i).toNat)
  case atStart =>
    obtain ⟨cs, h1, h2⟩ := HROW.out
    exact ⟨0, cs, by omega, rfl, h1, h2, fun x u hu => by simp [le, bytesV] at hu, HB5.out⟩
  case round =>
    obtain ⟨j, cs, hj, rfl, hA, hcs, hin, hbw⟩ := hrel
    have HA := Lib.hid hA; have HIN := Lib.hid hin; have HBW := Lib.hid hbw
    clear hA hin hbw
    by_cases h : j < k
    · have h' : (j : Int) < (k : Int) := by omega
      have hj0 : (0 : Int) ≤ (j : Int) := by omega
      have x0 : wr.cell? ⟨gb, j, none⟩ = some cs[j] := by rw [HA.out.cell j]; exact Array.getElem?_eq_getElem (by omega)
      have m0 := HA.out.mark j
      have hby := byte_of n j
      have HBY := Lib.hid hby
      clear hby
      go_wp2_with fail
      go_roundw
      case rel =>
        refine ⟨j + 1, cs.setIfInBounds j (byteV (UInt8.ofNat (n / 256 ^ j))), by omega, by go_num, ?_, by simp [hcs], fun x u hu => ?_, ?_⟩
        · rw [HBY.out]; exact HA.out.put j _
        · rw [le, bytesV_app] at hu
          rw [Array.getElem?_setIfInBounds]
          by_cases hxj : j = x
          · subst hxj
            rw [if_pos rfl, if_pos (by omega)]
            rw [List.getElem?_append_right (by rw [bytesV_len, le_len]; exact Nat.le_refl _)] at hu
            simpa [bytesV_len, le_len, bytesV] using hu
          · rw [if_neg hxj]
            have hx := (List.getElem?_eq_some_iff.1 hu).1
            rw [List.length_append, bytesV_len, bytesV_len, le_len] at hx
            rw [List.getElem?_append_left (by rw [bytesV_len, le_len]; simp at hx; omega)] at hu
            exact HIN.out x u hu
        · exact ext_setCell HBW.out (show w.heap.size ≤ gb by have := HGB.out; omega) _
      case measure => simp [intOf]; omega
    · have h' : ¬ (j : Int) < (k : Int) := by omega
      have hjk : j = k := by omega
      subst hjk
      go_wp2_with fail
      have hB : Bs wr (some ⟨gb, 0, none⟩) (le n j) := fun hne => ⟨gb, 0, rfl, HA.out.lt, fun x u hu => by
        rw [Nat.zero_add, HA.out.cell x]; exact HIN.out x u hu⟩
      have hadd := addF_in hF p bs (le n j) ⟨gb, 0, none⟩ j wr (HH.out.keep HBW.out) hB (by intro e; have := congrArg List.length e; rw [le_len] at this; simp at this; omega) (by rw [le_len]; omega)
      rw [le_len] at hadd
      refine hadd.mono ?_
      rintro en w6 ⟨⟨u, rfl⟩, h1, h2, h3⟩
      have hfin : (∃ u', Ending.returned (.tuple #[]) = .returned u') ∧ WrF F o t w6 p (bs ++ le n j) ∧ Tch (· = p) w w6 ∧ ∀ A c, w6.cell? ⟨p, o, none⟩ = some (.slice A (bs ++ le n j).length c) → ∀ g off, A = some ⟨g, off, none⟩ → w.heap.size ≤ g := ⟨⟨_, rfl⟩, h1, (Tch.of_below HBW.out).trans h2, fun A c hc g off e => Nat.le_trans HBW.out.size (h3 A c hc g off e)⟩
      have HF := Lib.hid hfin
      clear h1 h2 h3 hfin hadd hB
      go_wp2_with fail
      exact bodyPost_end (results_none Tryz.results208 _ _ _) rfl HF.out

set_option maxRecDepth 100000 in
set_option maxHeartbeats 1000000 in
theorem WTwoF_in (hF : FrOk F o) (p n : Nat) (bs : List UInt8) (w : World) (h : WrF F o t w p bs) (hl : bs.length ≤ 67108900) (hn : n < 65536) : Calls Tryz.prog 161 #[.pointer (some ⟨p, o, none⟩), .int .u16 n] w (AdF F o t p (bs ++ le n 2) w) := by
  have HN := Lib.hid (numberF_w hF p 2 n bs w h (by decide) hl (by omega))
  have hn0 : (0 : Int) ≤ (n : Int) := by omega
  have hn1 : (n : Int) < 65536 := by omega
  have hw : IntKind.u64.wrap (n : Int) = (n : Int) := by rw [IntKind.wrap_u64]; omega
  clear h
  go_enter Tryz.func161, Tryz.ntmps161
  go_wp2_with fail
  refine HN.out.mono ?_
  rintro en w1 ⟨⟨u, rfl⟩, h2, h3, h4⟩
  have HF := Lib.hid (show AdF F o t p (bs ++ le n 2) w (.returned (.tuple #[])) w1 from ⟨⟨_, rfl⟩, h2, h3, h4⟩)
  clear h2 h3 h4
  go_wp2_with fail
  exact bodyPost_end (results_none Tryz.results161 _ _ _) rfl HF.out
set_option maxRecDepth 100000 in
set_option maxHeartbeats 1000000 in
theorem WPutF_in (hF : FrOk F o) (p : Nat) (bs cs : List UInt8) (ad : Addr) (d : Nat) (w : World) (h : WrF F o t w p bs) (hc : Bs w (some ad) cs) (hne : cs ≠ []) (hl : bs.length + cs.length ≤ 70000000) : Calls Tryz.prog 164 #[.pointer (some ⟨p, o, none⟩), .slice (some ad) cs.length d] w (AdF F o t p (bs ++ cs) w) := by
  have HN := Lib.hid (addF_in hF p bs cs ad d w h hc hne hl)
  clear h hc hne
  go_enter Tryz.func164, Tryz.ntmps164
  go_wp2_with fail
  refine HN.out.mono ?_
  rintro en w1 ⟨⟨u, rfl⟩, h2, h3, h4⟩
  have HF := Lib.hid (show AdF F o t p (bs ++ cs) w (.returned (.tuple #[])) w1 from ⟨⟨_, rfl⟩, h2, h3, h4⟩)
  clear h2 h3 h4
  go_wp2_with fail
  exact bodyPost_end (results_none Tryz.results164 _ _ _) rfl HF.out
set_option maxRecDepth 100000 in
set_option maxHeartbeats 1000000 in
theorem WOutF_in (hF : FrOk F o) (p : Nat) (bs : List UInt8) (w : World) (h : WrF F o t w p bs) (hl : bs.length ≤ 70000000) : Calls Tryz.prog 50 #[.pointer (some ⟨p, o, none⟩)] w (ClOut bs w) := by
  obtain ⟨A, c, h1, h2, h3, h4, h5, h6⟩ := h.ex
  have x0 : w.cell? ⟨p, o, none⟩ = some (.slice A bs.length c) := (h1.cell o).trans (hF.get _)
  have HC := Lib.hid (Clone_in bs A c w h2 h5 (by omega))
  clear h h1 h2 h3 h5 h6
  go_enter Tryz.func50, Tryz.ntmps50
  go_wp2_with fail
  refine HC.out.mono ?_
  rintro en w1 h1
  obtain ⟨B, d, rfl, h2⟩ := h1
  have HF := Lib.hid (show ClOut bs w (.returned (.slice B bs.length d)) w1 from ⟨B, d, rfl, h2⟩)
  clear h2
  go_wp2_with fail
  go_ret
  exact HF.out

end

end Go.Proofs.YtkmpchffflemcaaGreatDoor.Oc
end

/- Layer 31: a session: what lies of it; bytes come. -/
section
set_option linter.unusedVariables false
set_option linter.unusedSimpArgs false
namespace Go.Proofs.YtkmpchffflemcaaGreatDoor.En
open Go.RowKit
open Go.Proofs.YtkmpchffflemcaaGreatDoor.Oc (le val Bs okA okA_none Buf wp_buf bytesV FrOk WrF u8_info)

/-- a session: the bytes of a piece that is not whole yet, what is answered, whether it is closed -/
structure Ses where
  rest : By
  out : By
  closed : Bool
structure SesAt (S : Nat → Prop) (w : World) (x : Nat) (s : Ses) : Prop where
  ex : ∃ A c B d, Arr w x 135 #[.slice A s.rest.length c, .slice B s.out.length d, .bool s.closed] ∧ Buf w A c s.rest S ∧ Bs w B s.out ∧ (B = none → s.out = [] ∧ d = 0) ∧ s.out.length ≤ d ∧ okA B ∧ (∀ g off, B = some ⟨g, off, none⟩ → g ≠ x ∧ S g ∧ ∀ off', A ≠ some ⟨g, off', none⟩)
  own : S x
theorem SesAt.same {S : Nat → Prop} {w w' : World} {x : Nat} {s : Ses} (h : SesAt S w x s) (hz : w.heap.size ≤ w'.heap.size) (hk : ∀ k, S k → k < w.heap.size → w'.heap[k]? = w.heap[k]?) : SesAt S w' x s := by
  obtain ⟨A, c, B, d, h1, h2, h3, h4, h5, h6, h7⟩ := h.ex
  refine ⟨⟨A, c, B, d, (hk x h.own h1.lt).trans h1, h2.same hk, fun hne => ?_, h4, h5, h6, h7⟩, h.own⟩
  obtain ⟨g, off, e1, e2, e3⟩ := h3 hne
  exact ⟨g, off, e1, Nat.lt_of_lt_of_le e2 hz, fun i u hi => (World.cell?_of_block (a := ⟨g, off + i, none⟩) (hk g (h7 g off e1).2.1 e2)).trans (e3 i u hi)⟩
theorem SesAt.below {S : Nat → Prop} {w w' : World} {x : Nat} {s : Ses} (h : SesAt S w x s) (hb : Below w.heap.size w w') : SesAt S w' x s := h.same hb.size fun k _ hk => hb.block k hk
theorem SesAt.mono {S T : Nat → Prop} {w : World} {x : Nat} {s : Ses} (h : SesAt S w x s) (hST : ∀ k, S k → T k) : SesAt T w x s := by
  obtain ⟨A, c, B, d, h1, h2, h3, h4, h5, h6, h7⟩ := h.ex
  exact ⟨⟨A, c, B, d, h1, h2.mono hST, h3, h4, h5, h6, fun g off e => ⟨(h7 g off e).1, hST g (h7 g off e).2.1, (h7 g off e).2.2⟩⟩, hST x h.own⟩
/-- a session that bytes came to: what it is then -/
def Ses.feed (s : Ses) (b : By) : Ses := if (cutP (s.rest ++ b)).2.2 = 0 then { s with rest := (s.rest ++ b).drop (cutP (s.rest ++ b)).2.1 } else ⟨[], s.out, true⟩
theorem cutF_le : ∀ (k : Nat) (b : By), (cutF k b).2.1 ≤ b.length
  | 0, _ => Nat.zero_le _
  | k + 1, b => by
    rw [cutF]
    split
    · exact Nat.zero_le _
    · split
      · exact Nat.zero_le _
      · split
        · exact Nat.zero_le _
        · rename_i q1 q2 q3
          have h1 := cutF_le k ((b.drop 2).drop (val (b.take 2)))
          have h2 : (b.drop 2).length = b.length - 2 := List.length_drop
          have h3 : ((b.drop 2).drop (val (b.take 2))).length = (b.drop 2).length - val (b.take 2) := List.length_drop
          show 2 + val (b.take 2) + _ ≤ b.length
          omega
set_option maxRecDepth 100000 in
theorem buf_cut {w : World} {A : Option Addr} {c : Nat} {r : By} {S : Nat → Prop} (h : Buf w A c r S) {n : Nat} (hn : n ≤ r.length) :
    ∃ A3, (∀ W : World, (Instr.slice 22 (.slice A r.length c) (some (.int .i64 (n : Int))) none none).run Tryz.prog W = .ok (.slice A3 (r.length - n) (c - n)) W) ∧ Buf w A3 (c - n) (r.drop n) S ∧ ∀ g off, A3 = some ⟨g, off, none⟩ → ∃ off', A = some ⟨g, off', none⟩ := by
  obtain ⟨i0, hi, hz0, hz1, hz2⟩ := info_parts u8_info
  have hz : ∀ W : World, (sizeOf 5).run Tryz.prog W = .ok i0.size W := fun W => by simp [sizeOf, typeInfo, hi]
  have hc := h.len
  refine ⟨if c = n then A else A.map (·.add (n * i0.size)), fun W => ?_, ?_, fun g off e => ?_⟩
  · have h9 := run_slice_l (P := Tryz.prog) W 22 A r.length c Tryz.underlying22 .i64 (n : Int) (by omega) (by omega)
    refine h9.trans ?_
    refine (congrArg (fun q => Result.andThen q fun s w => Result.ok (sliced A (n : Int).toNat r.length c s) w) (hz W)).trans ?_
    simp only [Result.andThen, sliced, Int.toNat_natCast]
  · rw [hz1]
    split
    · rename_i e
      subst e
      have : r.drop c = [] := List.drop_eq_nil_of_le hc
      rw [this, Nat.sub_self]
      exact h.zero
    · cases A with
      | none =>
        rcases h.ex with ⟨_, h1, h2⟩ | ⟨g, off, cur, h0, _⟩
        · subst h2
          have : n = 0 := by simpa using hn
          omega
        · cases h0
      | some a =>
        rcases h.ex with ⟨h0, _⟩ | ⟨g, off, cur, h0, _⟩
        · cases h0
        · injection h0 with h0
          subst h0
          have h8 : Buf w (some ⟨g, off + n, none⟩) (c - n) (r.drop n) S := Buf.drop (A := none) h hn
          simpa [Addr.add_lit] using h8
  · split at e
    · exact ⟨off, e⟩
    · cases A with
      | none => cases e
      | some a =>
        rcases h.ex with ⟨h0, _⟩ | ⟨g', off', cur, h0, _⟩
        · cases h0
        · injection h0 with h0
          subst h0
          simp only [Option.map_some, Addr.add_lit] at e
          injection e with e
          injection e with e1 e2
          subst e1
          exact ⟨off', rfl⟩
def ScOut (S : Nat → Prop) (x : Nat) (s : Ses) (b : By) (w : World) (e : Ending) (w' : World) : Prop :=
  ∃ v A C m, e = .returned (.tuple #[v, .int .i64 (cutP (s.rest ++ b)).2.2]) ∧ RowsAt m w' v (cutP (s.rest ++ b)).1 A C ∧ SesAt (fun k => S k ∨ (w.heap.size ≤ k ∧ k < m)) w' x (s.feed b) ∧ Tch S w w' ∧ w.heap.size ≤ m ∧ m ≤ w'.heap.size
set_option maxRecDepth 100000 in
set_option maxHeartbeats 8000000 in
theorem scut_in {S : Nat → Prop} {w : World} {x : Nat} {s : Ses} (h : SesAt S w x s) (hcl : s.closed = false) (hS : ∀ k, S k → k < w.heap.size) (b : By) (Ab : Option Addr) (cb : Nat) (hB : Bs w Ab b) (hlen : s.rest.length + b.length ≤ 100000000) : Calls Tryz.prog 48 #[.pointer (some ⟨x, 0, none⟩), .slice Ab b.length cb] w (ScOut S x s b w) := by
  obtain ⟨A, c, B, d, h1, h2, h3⟩ := h.ex
  have x0 : w.cell? ⟨x, 0, none⟩ = some (.slice A s.rest.length c) := h1.cell 0
  have x2 : w.cell? ⟨x, 2, none⟩ = some (.bool false) := by rw [← hcl]; exact h1.cell 2
  have m0 := h1.mark 0
  have H1 := Lib.hid h1; have H2 := Lib.hid h2; have H3 := Lib.hid h3; have HO := Lib.hid h.own; have HS := Lib.hid hS; have HB := Lib.hid hB; have HCL := Lib.hid hcl
  have HLN := Lib.hid (show (s.rest ++ b).length ≤ 100000000 by rw [List.length_append]; exact hlen)
  have HNX := Lib.hid (show ¬ (∃ off, A = some ⟨x, off, none⟩) from fun ⟨off, e⟩ => absurd ((h2.foot e).2.2 _ _ h1) (by decide))
  obtain ⟨r, hr⟩ : ∃ r, s.rest ++ b = r := ⟨_, rfl⟩
  have HR := Lib.hid hr
  rw [hr] at HLN
  clear h h1 h2 h3 hcl hS hB hr
  go_enter Tryz.func48, Tryz.ntmps48
  go_upto_region 4 with (at_builtin; refine wp_buf _ rfl (.tmp 17) (.tmp 18) rfl H2.out.self rfl rfl rfl rfl HB.out (by omega) ?_; intro A2 c2 w2 hb2 ht2; have HB2 := Lib.hid hb2; have HT2 := Lib.hid ht2; have hx2 := ht2.arr H1.out (fun e => absurd (HNX.out e) (by simp)); have z0 := hx2.cell 0; have n0 := hx2.mark 0; have HX2 := Lib.hid hx2; clear hb2 ht2 hx2)
  obtain ⟨w3, hw3⟩ : ∃ w3, w2.setCell ⟨x, 0, none⟩ (.slice A2 (s.rest.length + b.length) c2) = w3 := ⟨_, rfl⟩
  have hrl : r.length = s.rest.length + b.length := by rw [← HR.out, List.length_append]
  rw [HR.out] at HB2
  have ha3 : Arr w3 x 135 #[.slice A2 r.length c2, .slice B s.out.length d, .bool s.closed] := by rw [← hw3, hrl]; exact HX2.out.put 0 _
  have hz3 : w.heap.size ≤ w3.heap.size ∧ w3.heap.size = w2.heap.size := by rw [← hw3]; exact ⟨by have := HT2.out.size; simpa using this, by simp⟩
  have hset : Tch (· = x) w2 w3 := by rw [← hw3]; exact Tch.at w2 x 0 _
  have hnx2 : ∀ off, A2 ≠ some ⟨x, off, none⟩ := fun off e => absurd ((HB2.out.foot e).2.2 _ _ HX2.out) (by decide)
  have hb3 : Buf w3 A2 c2 r (fun k => S k ∨ (w.heap.size ≤ k ∧ k < w3.heap.size)) := by
    have h5 := HB2.out.self
    have h6 : Buf w3 A2 c2 r (fun k => ∃ off, A2 = some ⟨k, off, none⟩) := h5.same fun g ⟨off, e⟩ hg => hset.block g hg (fun e2 => hnx2 off (by rw [← e2]; exact e))
    refine h6.mono fun g ⟨off, e⟩ => ?_
    obtain ⟨q1, q2, _⟩ := HB2.out.foot e
    rcases q1 with ⟨off', q1⟩ | q1
    · exact .inl (H2.out.foot q1).1
    · exact .inr ⟨q1, by omega⟩
  have hB3 : Bs w3 B s.out := by
    have hk : ∀ g off, B = some ⟨g, off, none⟩ → g < w.heap.size → w3.heap[g]? = w.heap[g]? := fun g off e hg => by
      obtain ⟨q1, q2, q3⟩ := H3.out.2.2.2.2 g off e
      have h7 := HT2.out.block g hg (fun ⟨off', e'⟩ => q3 off' e')
      exact (hset.block g (by have := HT2.out.size; omega) q1).trans h7
    intro hne
    obtain ⟨g, off, e1, e2, e3⟩ := H3.out.1 hne
    exact ⟨g, off, e1, by omega, fun i u hi => (World.cell?_of_block (a := ⟨g, off + i, none⟩) (hk g off e1 e2)).trans (e3 i u hi)⟩
  have hBf : ∀ g off, B = some ⟨g, off, none⟩ → g ≠ x ∧ (S g ∨ (w.heap.size ≤ g ∧ g < w3.heap.size)) ∧ ∀ off', A2 ≠ some ⟨g, off', none⟩ := fun g off e => by
    obtain ⟨q1, q2, q3⟩ := H3.out.2.2.2.2 g off e
    refine ⟨q1, .inl q2, fun off' e' => ?_⟩
    rcases (HB2.out.foot e').1 with ⟨o2, q⟩ | q
    · exact q3 o2 q
    · have := HS.out g q2; omega
  have HT3 := Lib.hid (show Tch S w w3 ∧ w.heap.size ≤ w3.heap.size from ⟨((HT2.out.mono (T := S) fun k _ ⟨off, e⟩ => (H2.out.foot e).1).trans (hset.mono fun k _ e => by rw [e]; exact HO.out)), hz3.1⟩)
  have HCUT := Lib.hid (Cut_in r A2 c2 w3 hb3.bs hb3.okA (by have := HLN.out; omega))
  have y0 : w3.cell? ⟨x, 0, none⟩ = some (.slice A2 r.length c2) := ha3.cell 0
  rw [hw3]
  have HA3 := Lib.hid ha3; have HBF := Lib.hid hb3; have HB3 := Lib.hid hB3; have HBO := Lib.hid hBf; have HBR := Lib.hid (show (B = none → s.out = [] ∧ d = 0) ∧ s.out.length ≤ d ∧ okA B from ⟨H3.out.2.1, H3.out.2.2.1, H3.out.2.2.2.1⟩)
  clear x0 x2 m0 z0 n0 ha3 hb3 hB3 hBf hset hnx2 hw3 hz3 HB2 HT2 HX2 H1 H2 H3 HB hrl
  go_wp2_with fail
  refine HCUT.out.mono ?_
  rintro e w4 ⟨v, RA, RC, rfl, hrows, hb4⟩
  have HRW := Lib.hid hrows; have HB4 := Lib.hid hb4
  have hx4 := HA3.out.keep hb4
  have y4 : w4.cell? ⟨x, 0, none⟩ = some (.slice A2 r.length c2) := hx4.cell 0
  have m4 := hx4.mark 0
  obtain ⟨n, hn⟩ : ∃ n, (cutP r).2.1 = n := ⟨_, rfl⟩
  obtain ⟨er, her⟩ : ∃ er, (cutP r).2.2 = er := ⟨_, rfl⟩
  rw [hn, her]
  have hnr : n ≤ r.length := by rw [← hn]; exact cutF_le _ _
  have hrc := HBF.out.len
  have hle1 : (n : Int) ≤ (r.length : Int) := by omega
  have hle2 : (r.length : Int) ≤ (c2 : Int) := by omega
  have HX4 := Lib.hid hx4
  have HNE := Lib.hid (show (cutP r).2.1 = n ∧ (cutP r).2.2 = er from ⟨hn, her⟩)
  clear hb4 hrows hx4 hn her y0 HCUT
  obtain ⟨A3, hsl, hb3', hA3⟩ := buf_cut (HBF.out.same (w' := w4) fun g _ hg => HB4.out.block g hg) hnr
  have hw34 := HB4.out.size
  have hT4 : Tch S w w4 := HT3.out.1.trans (Tch.of_below HB4.out)
  have fin : ∀ (w5 : World) (A5 : Option Addr) (c5 : Nat) (s5 : Ses), s5.out = s.out → s5 = s.feed b → Tch (· = x) w4 w5 → Arr w5 x 135 #[.slice A5 s5.rest.length c5, .slice B s.out.length d, .bool s5.closed] → Buf w4 A5 c5 s5.rest (fun k => S k ∨ (w.heap.size ≤ k ∧ k < w3.heap.size)) → (∀ g off, A5 = some ⟨g, off, none⟩ → ∃ off', A2 = some ⟨g, off', none⟩) → ScOut S x s b w (.returned (.tuple #[v, .int .i64 er])) w5 := fun w5 A5 c5 s5 ho hf ht ha hbu hA => by
    have hnx : ∀ g off, A5 = some ⟨g, off, none⟩ → g ≠ x := fun g off e e2 => by
      obtain ⟨off', e'⟩ := hA g off e
      rw [e2] at e'
      exact absurd ((HBF.out.foot e').2.2 _ _ HA3.out) (by decide)
    have h6 : Buf w5 A5 c5 s5.rest (fun k => S k ∨ (w.heap.size ≤ k ∧ k < w3.heap.size)) := (hbu.self.same fun g ⟨off, e⟩ hg => ht.block g hg (hnx g off e)).mono fun g ⟨off, e⟩ => (hbu.foot e).1
    have hB5 : Bs w5 B s.out := fun hne => by
      obtain ⟨g, off, e1, e2, e3⟩ := HB3.out hne
      have h1 := ht.block g (by omega) (HBO.out g off e1).1
      have h2 := HB4.out.block g e2
      exact ⟨g, off, e1, by have := ht.size; omega, fun i u hi => (World.cell?_of_block (a := ⟨g, off + i, none⟩) (h1.trans h2)).trans (e3 i u hi)⟩
    have hsz := ht.size
    refine ⟨v, RA, RC, w3.heap.size, by rw [HR.out, HNE.out.2], by rw [HR.out]; exact HRW.out.one ht HX4.out (by decide) (by decide), ?_, hT4.trans (ht.mono fun k _ e => by rw [e]; exact HO.out), HT3.out.2, by omega⟩
    rw [← hf]
    refine ⟨⟨A5, c5, B, d, by rw [ho]; exact ha, h6, by rw [ho]; exact hB5, by rw [ho]; exact HBR.out.1, by rw [ho]; exact HBR.out.2.1, HBR.out.2.2, fun g off e => ?_⟩, .inl HO.out⟩
    obtain ⟨q1, q2, q3⟩ := HBO.out g off e
    exact ⟨q1, q2, fun off' e' => by obtain ⟨o2, e2⟩ := hA g off' e'; exact q3 o2 e2⟩
  have HB5 := Lib.hid hb3'; have HA3' := Lib.hid hA3; have HFIN := Lib.hid fin
  have y2 : w4.cell? ⟨x, 2, none⟩ = some (.bool s.closed) := HX4.out.cell 2
  have m2 := HX4.out.mark 2
  clear hb3' hA3 fin hT4
  by_cases he : er = 0
  · have he1 : (er == (0 : Int)) = true := by rw [he]; rfl
    have he2 : (er != (0 : Int)) = false := by rw [he]; rfl
    have hf : ({ s with rest := r.drop n } : Ses) = s.feed b := by unfold Ses.feed; rw [HR.out, if_pos (by rw [HNE.out.2]; exact he), HNE.out.1]
    have ha5 : Arr (w4.setCell ⟨x, 0, none⟩ (.slice A3 (r.length - n) (c2 - n))) x 135 #[.slice A3 (r.drop n).length (c2 - n), .slice B s.out.length d, .bool s.closed] := by rw [List.length_drop]; exact HX4.out.put 0 _
    have HF := Lib.hid (HFIN.out _ A3 (c2 - n) { s with rest := r.drop n } rfl hf (Tch.at w4 x 0 _) ha5 HB5.out HA3'.out)
    clear he hf ha5
    go_wp2_with fail
    go_ret2
    exact HF.out
  · have he1 : (er == (0 : Int)) = false := by simpa using he
    have he2 : (er != (0 : Int)) = true := by simpa using he
    have hf : ({ s with rest := [], closed := true } : Ses) = s.feed b := by unfold Ses.feed; rw [HR.out, if_neg (by rw [HNE.out.2]; exact he)]
    have ha5 : Arr (((w4.setCell ⟨x, 0, none⟩ (.slice A3 (r.length - n) (c2 - n))).setCell ⟨x, 0, none⟩ (.slice none 0 0)).setCell ⟨x, 2, none⟩ (.bool true)) x 135 #[.slice none 0 0, .slice B s.out.length d, .bool true] := ((HX4.out.put 0 _).put 0 _).put 2 _
    have HF := Lib.hid (HFIN.out _ none 0 { s with rest := [], closed := true } rfl hf (((Tch.at w4 x 0 _).at2 0 _).at2 2 _) ha5 (Buf.none _ _) (fun g off e => by cases e))
    clear he hf ha5
    go_wp2_with fail
    go_ret2
    exact HF.out

end Go.Proofs.YtkmpchffflemcaaGreatDoor.En
end

/- Layers 23, 31: engine.Pending, Engine.ask; server.made, there. -/
section
set_option linter.unusedVariables false
set_option linter.unusedSimpArgs false
namespace Go.Proofs.YtkmpchffflemcaaGreatDoor.En
open Go.RowKit
open Go.Proofs.YtkmpchffflemcaaGreatDoor.Oc (le val Bs okA)
open Go.Proofs.YtkmpchffflemcaaGreatDoor.Eg (EnArr MapL lkp doesL)

set_option maxRecDepth 100000 in
set_option maxHeartbeats 4000000 in
theorem askE_in {w : World} {e b : Nat} {up : Bool} {lg sl : Option Addr} {wt mp : Value} (hE : EnArr w e up lg sl (some ⟨b, 0, none⟩) wt mp) (q : Rq) (r : Rp) (er : Int)
    (hA : ∀ W, Below w.heap.size w W → Calls Tryz.prog 138 #[.pointer (some ⟨b, 0, none⟩), .agg (rqV q)] W fun en w' => en = .returned (.tuple #[.agg (rpV r), .int .i64 er]) ∧ Below W.heap.size W w') :
    Calls Tryz.prog 93 #[.pointer (some ⟨e, 0, none⟩), .agg (rqV q)] w (RsOut [r] (fun w' => Below w.heap.size w w') w) := by
  obtain ⟨xq, hxq⟩ : ∃ xq, w.heap.size = xq := ⟨_, rfl⟩
  obtain ⟨w1, hw1⟩ : ∃ w1, w.alloc (.cells (rqV q) 223) = w1 := ⟨_, rfl⟩
  have HA1 := Lib.hid (show Arr w1 xq 223 (rqV q) by rw [← hw1, ← hxq]; exact Arr.fresh w _ _)
  have HB1 := Lib.hid (show Below w.heap.size w w1 by rw [← hw1]; exact ext_alloc (Below.refl _ _) _)
  have HE1 := Lib.hid (show EnArr w1 e up lg sl (some ⟨b, 0, none⟩) wt mp from Arr.keep hE HB1.out)
  have HSX := Lib.hid (show ∀ W, Below w1.heap.size w1 W → W.cell? ⟨e, 4, none⟩ = some (.pointer (some ⟨b, 0, none⟩)) ∧ W.rangeAt xq 0 (rqV q).toList from fun W hW => ⟨(HE1.out.keep hW).cell 4, fun j u hj => by rw [Nat.zero_add, (HA1.out.keep hW).cell j]; simpa using hj⟩)
  have HA := Lib.hid hA
  have hfin : ∀ W, Below w.heap.size w W → RsOut [r] (fun w' => Below w.heap.size w w') w (.returned (.slice (some ⟨W.heap.size, 0, none⟩) 1 1)) (W.alloc (.cells (rpV r) 228)) := fun W hW => by
    refine ⟨_, _, rfl, ?_, ext_alloc hW _⟩
    intro _
    refine ⟨W.heap.size, 0, rfl, by simp, fun i hi j u hj => ?_⟩
    have h0 : i = 0 := by simpa using hi
    subst h0
    have := (Arr.fresh W 228 (rpV r)).cell j
    simp only [Nat.zero_mul, Nat.zero_add]
    refine this.trans ?_
    simpa using hj
  clear hE hA
  go_enter Tryz.func93, Tryz.ntmps93
  go_upto_region 1 with fail
  obtain ⟨wd, hwd⟩ : ∃ wd, w1.drew = wd := ⟨_, rfl⟩
  have HB_wd := Lib.hid (show Below w1.heap.size w1 wd by rw [← hwd]; exact ext_drew (Below.refl _ _))
  refine wp_region_held_drew (S := fun w' => w'.cell? ⟨e, 4, none⟩ = some (.pointer (some ⟨b, 0, none⟩)) ∧ w'.rangeAt xq 0 (rqV q).toList) (by kernel_rfl) (by rw [hwd]; exact HSX.out _ HB_wd.out) (fun hHeld => ?_)
  rw [hwd] at hHeld ⊢
  refine tky 0 (some 8) hHeld ?_
  refine tky 1 (some 9) hHeld ?_
  refine tky 2 (some 10) hHeld ?_
  refine tky 3 (some 11) hHeld ?_
  try simp only [Act.put, List.setIfInBounds_toArray, List.set_cons_zero, List.set_cons_succ]
  refine tk_load 4 (some 12) hHeld 223 (.tmp 3) xq 0 (rqV q).toList _ (fun w' h => h.2) Tryz.underlying223 rfl request_size ?_
  try simp only [Act.put, List.setIfInBounds_toArray, List.set_cons_zero, List.set_cons_succ]
  refine wpAnyH_ready (rs := [5, 9]) (by kernel_rfl) (by simp) ?_
  refine AllReadyH.cons rfl (fun K hK => ?_) (AllReadyH.cons rfl (fun K hK => ?_) AllReadyH.nil)
  · go_simp
    refine (HA.out _ (ext_trans HB1.out HB_wd.out)).mono ?_
    rintro en wa ⟨rfl, hb⟩
    have HB_wa := Lib.hid (ext_trans HB_wd.out hb)
    clear hb
    go_wp2_with fail
    refine hK.out _ _ (by exact HSX.out _ HB_wa.out) (fun hH1 => ?_)
    clear hK K
    try simp only [Act.put, List.setIfInBounds_toArray, List.set_cons_zero, List.set_cons_succ]
    refine tky 6 (some 7) hH1 ?_
    refine tky 7 (some 14) hH1 ?_
    refine tky 8 (some 15) hH1 ?_
    try simp only [Act.put, List.setIfInBounds_toArray, List.set_cons_zero, List.set_cons_succ]
    refine wpAnyH_ready (rs := [9]) (by kernel_rfl) (by simp) ?_
    refine AllReadyH.cons rfl (fun K hK => ?_) AllReadyH.nil
    obtain ⟨wb, hwb⟩ : ∃ x, wa.alloc (.cells #[.int .u32 0, .int .i64 0, .int .i64 0, .int .u32 0, .int .i64 0, .int .i64 0, .int .i64 0] 228) = x := ⟨_, rfl⟩
    obtain ⟨lb, hlb⟩ : ∃ lb, wa.heap.size = lb := ⟨_, rfl⟩
    have HB_wb := Lib.hid (show Below w1.heap.size w1 wb by rw [← hwb]; exact ext_alloc HB_wa.out _)
    have HL_wb := Lib.hid (show Arr wb lb 228 #[.int .u32 0, .int .i64 0, .int .i64 0, .int .u32 0, .int .i64 0, .int .i64 0, .int .i64 0] by rw [← hwb, ← hlb]; exact Arr.fresh wa _ _)
    have HLB := Lib.hid (show w1.heap.size ≤ lb by rw [← hlb]; exact HB_wa.out.size)
    go_simp
    go_wp2_with fail
    try rw [hwb]
    try rw [hlb]
    clear hwb hlb
    refine hK.out _ _ (by exact HSX.out _ HB_wb.out) (fun hH2 => ?_)
    clear hK K
    try simp only [Act.put, List.setIfInBounds_toArray, List.set_cons_zero, List.set_cons_succ]
    refine wpAnyH_ready (rs := [10]) (by kernel_rfl) (by simp) ?_
    refine AllReadyH.cons rfl (fun K hK => ?_) AllReadyH.nil
    refine wp_store_blk 228 (.tmp 5) (.tmp 14) rfl lb 228 _ (rpV r) HL_wb.out rfl rfl rfl reply_size (by simp [rpV, Value.oneCell']) ?_
    intro wz hAz hgz hsz
    have HAz := Lib.hid hAz; have HBz := Lib.hid (HB_wb.out.grown hgz HB_wb.out.size (fun k e => by injection e with e; have := HLB.out; omega))
    clear hAz hgz hsz
    refine hK.out _ _ (by exact HSX.out _ HBz.out) (fun hHz => ?_)
    clear hK K
    try simp only [Act.put, List.setIfInBounds_toArray, List.set_cons_zero, List.set_cons_succ]
    refine tky 11 (some 6) hHz ?_
    try simp only [Act.put, List.setIfInBounds_toArray, List.set_cons_zero, List.set_cons_succ]
    refine wpAnyH_done (by kernel_rfl) ?_ _
    go_wp2_with (refine wpList_load_blk rfl 228 (.tmp 5) rfl lb 228 (#[.int .u32 r.tag, .int .i64 r.kind, .int .i64 r.err, .int .u32 r.id, .int .i64 r.seat, .int .i64 r.til, .int .i64 r.count]) HAz.out rfl _ Tryz.underlying228 rfl reply_size ?_)
    go_ret
    exact hfin _ (ext_trans HB1.out HBz.out)
  · obtain ⟨wa, hwa⟩ : ∃ x, wd.alloc (.cells #[.int .u32 0, .int .i64 0, .int .i64 0, .int .u32 0, .int .i64 0, .int .i64 0, .int .i64 0] 228) = x := ⟨_, rfl⟩
    obtain ⟨lb, hlb⟩ : ∃ lb, wd.heap.size = lb := ⟨_, rfl⟩
    have HB_wa := Lib.hid (show Below w1.heap.size w1 wa by rw [← hwa]; exact ext_alloc HB_wd.out _)
    have HL_wa := Lib.hid (show Arr wa lb 228 #[.int .u32 0, .int .i64 0, .int .i64 0, .int .u32 0, .int .i64 0, .int .i64 0, .int .i64 0] by rw [← hwa, ← hlb]; exact Arr.fresh wd _ _)
    have HLB := Lib.hid (show w1.heap.size ≤ lb by rw [← hlb]; exact HB_wd.out.size)
    go_simp
    go_wp2_with fail
    try rw [hwa]
    try rw [hlb]
    clear hwa hlb
    refine hK.out _ _ (by exact HSX.out _ HB_wa.out) (fun hH1 => ?_)
    clear hK K
    try simp only [Act.put, List.setIfInBounds_toArray, List.set_cons_zero, List.set_cons_succ]
    refine wpAnyH_ready (rs := [5]) (by kernel_rfl) (by simp) ?_
    refine AllReadyH.cons rfl (fun K hK => ?_) AllReadyH.nil
    go_simp
    refine (HA.out _ (ext_trans HB1.out HB_wa.out)).mono ?_
    rintro en wb ⟨rfl, hb⟩
    have HB_wb := Lib.hid (ext_trans HB_wa.out hb)
    have HL_wb := Lib.hid (HL_wa.out.keep hb)
    clear hb
    go_wp2_with fail
    refine hK.out _ _ (by exact HSX.out _ HB_wb.out) (fun hH2 => ?_)
    clear hK K
    try simp only [Act.put, List.setIfInBounds_toArray, List.set_cons_zero, List.set_cons_succ]
    refine tky 6 (some 7) hH2 ?_
    refine tky 7 (some 14) hH2 ?_
    refine tky 8 (some 15) hH2 ?_
    try simp only [Act.put, List.setIfInBounds_toArray, List.set_cons_zero, List.set_cons_succ]
    refine wpAnyH_ready (rs := [10]) (by kernel_rfl) (by simp) ?_
    refine AllReadyH.cons rfl (fun K hK => ?_) AllReadyH.nil
    refine wp_store_blk 228 (.tmp 5) (.tmp 14) rfl lb 228 _ (rpV r) HL_wb.out rfl rfl rfl reply_size (by simp [rpV, Value.oneCell']) ?_
    intro wz hAz hgz hsz
    have HAz := Lib.hid hAz; have HBz := Lib.hid (HB_wb.out.grown hgz HB_wb.out.size (fun k e => by injection e with e; have := HLB.out; omega))
    clear hAz hgz hsz
    refine hK.out _ _ (by exact HSX.out _ HBz.out) (fun hHz => ?_)
    clear hK K
    try simp only [Act.put, List.setIfInBounds_toArray, List.set_cons_zero, List.set_cons_succ]
    refine tky 11 (some 6) hHz ?_
    try simp only [Act.put, List.setIfInBounds_toArray, List.set_cons_zero, List.set_cons_succ]
    refine wpAnyH_done (by kernel_rfl) ?_ _
    go_wp2_with (refine wpList_load_blk rfl 228 (.tmp 5) rfl lb 228 (#[.int .u32 r.tag, .int .i64 r.kind, .int .i64 r.err, .int .u32 r.id, .int .i64 r.seat, .int .i64 r.til, .int .i64 r.count]) HAz.out rfl _ Tryz.underlying228 rfl reply_size ?_)
    go_ret
    exact hfin _ (ext_trans HB1.out HBz.out)
theorem Pending_no {w : World} {e : Nat} {lg sl bk : Option Addr} {c : Nat} {A : Option Addr} {mp : Value} (hE : EnArr w e true lg sl bk (.slice A 0 c) mp) : Calls Tryz.prog 45 #[.pointer (some ⟨e, 0, none⟩)] w fun en w' => en = .returned (.int .i64 0) ∧ w' = w := by
  have x5 : w.cell? ⟨e, 5, none⟩ = some (.slice A 0 c) := hE.cell 5
  have HR := Lib.hid (Eg.Ready_in hE)
  clear hE
  go_enter Tryz.func45, Tryz.ntmps45
  go_wp2_with fail
  refine HR.out.mono ?_
  rintro en wq ⟨rfl, hwq⟩
  rw [hwq]
  clear hwq wq
  go_wp2_with fail
  go_ret
  exact ⟨rfl, rfl⟩
theorem srvMade_in {w : World} {p e : Nat} {v u : Value} (h : Arr w p 130 #[.pointer (some ⟨e, 0, none⟩), v, u]) : Calls Tryz.prog 46 #[.pointer (some ⟨p, 0, none⟩)] w fun en w' => en = .returned (.bool true) ∧ w' = w := by
  have x0 : w.cell? ⟨p, 0, none⟩ = some (.pointer (some ⟨e, 0, none⟩)) := h.cell 0
  clear h
  go_enter Tryz.func46, Tryz.ntmps46
  go_wp2_with fail
  go_ret
  exact ⟨rfl, rfl⟩
theorem srvThere_in {w : World} {p : Nat} {u1 u2 : Value} {A : Option Addr} {n c : Nat} (h : Arr w p 130 #[u1, .slice A n c, u2]) (k : Nat) (hk : k < n) : Calls Tryz.prog 47 #[.pointer (some ⟨p, 0, none⟩), .int .i64 k] w fun en w' => en = .returned (.bool true) ∧ w' = w := by
  have x1 : w.cell? ⟨p, 1, none⟩ = some (.slice A n c) := h.cell 1
  have h1 : (0 : Int) ≤ (k : Int) := by omega
  have h2 : (k : Int) < (n : Int) := by omega
  have h3 : decide ((0 : Int) ≤ (k : Int)) = true := decide_eq_true h1
  have h4 : decide ((k : Int) < (n : Int)) = true := decide_eq_true h2
  clear h
  go_enter Tryz.func47, Tryz.ntmps47
  go_wp2_with fail
  go_ret
  exact ⟨rfl, rfl⟩

end Go.Proofs.YtkmpchffflemcaaGreatDoor.En
end

/- Layer 31: requests that change nothing; an answer to a session. -/
section
set_option linter.unusedVariables false
set_option linter.unusedSimpArgs false
namespace Go.Proofs.YtkmpchffflemcaaGreatDoor.En
open Go.RowKit
open Go.Proofs.YtkmpchffflemcaaGreatDoor.Oc (le val Bs okA FrOk WrF AdF WTwoF_in WPutF_in)
open Go.Proofs.YtkmpchffflemcaaGreatDoor.Eg (EnArr MapL lkp doesL)
open Go.Proofs.YtkmpchffflemcaaGreatDoor.Bk (Comp Parts)

/-- bytes that are no request -/
theorem DoBad_in {w : World} {e : Nat} {up : Bool} {lg sl bk : Option Addr} {wt mp : Value} (hE : EnArr w e up lg sl bk wt mp) (hT : RpTab w) (b : By) (A : Option Addr) (c : Nat) (hB : Bs w A b) (hA : okA A) (hl : b.length ≤ 70368744177664) (h : (rqGet b).2 ≠ 0) :
    Calls Tryz.prog 44 #[.pointer (some ⟨e, 0, none⟩), .slice A b.length c] w (DoOut [rpBytes ⟨0, 0, 200, 0, 0, 0, 0⟩] (fun w' => Below w.heap.size w w') w) :=
  Do_in hE b A c hB hA hl [⟨0, 0, 200, 0, 0, 0, 0⟩] (fun w' => Below w.heap.size w w') (fun W W' h1 h2 => ext_trans h1 h2) (fun W hW => hT.keep hW) (fun W hW => hW.size) (fun r hr => by
    have : r = ⟨0, 0, 200, 0, 0, 0, 0⟩ := by simpa using hr
    subst this
    exact ⟨rfl, by decide, by decide, by decide, by decide, by decide, .inl rfl, by decide, .inl rfl, .inl rfl, .inl rfl⟩) (by decide) (.bad h rfl fun W hW => hW)
theorem rpok_count (t : Int) (len : Nat) (ht : 0 ≤ t ∧ t < 4294967296) (hl : len ≤ 65535) : RpOk ⟨t, 10, 0, 0, 0, 0, len⟩ (rpF 10 0) where
  flag := rfl
  kind := by show (0 : Int) ≤ 10 ∧ (10 : Int) ≤ 10; decide
  err := by show (0 : Int) ≤ 0 ∧ (0 : Int) ≤ 65535; decide
  none h0 := by have : (10 : Int) = 0 := h0; omega
  tag := ht
  id := by show (0 : Int) ≤ 0 ∧ (0 : Int) < 4294967296; decide
  idf := .inl rfl
  til := by show (0 : Int) ≤ 0 ∧ (0 : Int) < 9223372036854775808; decide
  tilf := .inl rfl
  seat := .inl rfl
  count := by
    rcases Nat.eq_zero_or_pos len with h0 | h0
    · exact .inl (by rw [h0]; rfl)
    · exact .inr ⟨by show (0 : Int) < len; omega, by show (len : Int) ≤ 65535; omega, by decide⟩
/-- the count is asked -/
theorem DoCount_in {S : Nat → Prop} {w : World} {e b n codes mb : Nat} {lg sl : Option Addr} {wt : Value} {group next clock : Int} {len : Nat} {p : Parts} (hE : EnArr w e true lg sl (some ⟨b, 0, none⟩) wt (.map (some mb))) (hM : MapL w mb (doesL e)) (hK : Comp S w b n codes group next clock len p) (hn : 1 ≤ n) (hT : RpTab w) (bs : By) (A : Option Addr) (c : Nat) (hB : Bs w A bs) (hA : okA A) (hl : bs.length ≤ 70368744177664) (h : (rqGet bs).2 = 0) (hk : (rqGet bs).1.kind = 10) (hok : RqOk (rqGet bs).1) (hlen : len ≤ 65535) (htag : 0 ≤ (rqGet bs).1.tag ∧ (rqGet bs).1.tag < 4294967296) :
    Calls Tryz.prog 44 #[.pointer (some ⟨e, 0, none⟩), .slice A bs.length c] w (DoOut [rpBytes ⟨(rqGet bs).1.tag, 10, 0, 0, 0, 0, len⟩] (fun w' => Below w.heap.size w w') w) :=
  Do_in hE bs A c hB hA hl [⟨(rqGet bs).1.tag, 10, 0, 0, 0, 0, len⟩] (fun w' => Below w.heap.size w w') (fun W W' h1 h2 => ext_trans h1 h2) (fun W hW => hT.keep hW) (fun W hW => hW.size) (fun r hr => by
    have : r = ⟨(rqGet bs).1.tag, 10, 0, 0, 0, 0, len⟩ := by simpa using hr
    subst this
    exact rpok_count _ len htag hlen) (by simp)
    (.does h rfl mb 93 rfl hM (by rw [hk]; rfl) fun W hW => by
      refine (askE_in (Arr.keep hE hW) (rqGet bs).1 ⟨(rqGet bs).1.tag, 10, 0, 0, 0, 0, len⟩ 0 (fun W2 hW2 => AnsCount_in (hK.below (ext_trans hW hW2)) hn _ hok hk)).mono ?_
      rintro en W' ⟨A', c', rfl, h5, h6⟩
      exact ⟨⟨A', c', rfl, h5⟩, ext_trans hW h6, ⟨fun _ => False, Tch.of_below h6, fun k hk => hk.elim⟩, (Arr.keep hE (ext_trans hW h6)).cell 6, hM.keep (ext_trans hW h6)⟩)
/-- how a session lies around its writer -/
def sesF (rv : Value) (cl : Bool) (v : Value) : Array Value := #[rv, v, .bool cl]
theorem sesF_ok (rv : Value) (cl : Bool) : FrOk (sesF rv cl) 1 := ⟨fun v => rfl, fun v u => rfl⟩
def TlOut (rv : Value) (cl : Bool) (x : Nat) (bs : By) (w : World) (e : Ending) (w' : World) : Prop := (∃ u, e = .returned u) ∧ WrF (sesF rv cl) 1 135 w' x bs ∧ Tch (· = x) w w' ∧ ∀ A c, w'.cell? ⟨x, 1, none⟩ = some (.slice A bs.length c) → ∀ g off, A = some ⟨g, off, none⟩ → w.heap.size ≤ g
set_option maxRecDepth 100000 in
set_option maxHeartbeats 4000000 in
theorem tell_in {w : World} {p g n c k x : Nat} {u0 u2 rv : Value} {cl : Bool} {out : By} (h : Arr w p 130 #[u0, .slice (some ⟨g, 0, none⟩) n c, u2]) (hk : k < n) (hx : w.cell? ⟨g, k, none⟩ = some (.pointer (some ⟨x, 0, none⟩))) (hpx : p ≠ x) (hgx : g ≠ x) (ho : WrF (sesF rv cl) 1 135 w x out) (cs : By) (ad : Addr) (d : Nat) (hc : Bs w (some ad) cs) (had : ad.block ≠ x) (hne : cs ≠ []) (hl : out.length + cs.length ≤ 60000000) (hcl : cs.length < 65536) :
    Calls Tryz.prog 105 #[.pointer (some ⟨p, 0, none⟩), .int .i64 k, .slice (some ad) cs.length d] w (TlOut rv cl x (out ++ le cs.length 2 ++ cs) w) := by
  have p1 : w.cell? ⟨p, 1, none⟩ = some (.slice (some ⟨g, 0, none⟩) n c) := h.cell 1
  have hk0 : (0 : Int) ≤ (k : Int) := by omega
  have hkn : (k : Int) < (n : Int) := by omega
  have hk1 : ((k : Int) == (-1 : Int)) = false := beq_eq_false_iff_ne.2 (by omega)
  have hk2 : ((k : Int) != (-1 : Int)) = true := by rw [bne, hk1]; rfl
  have hw16 : IntKind.u16.wrap (cs.length : Int) = (cs.length : Int) := by rw [IntKind.wrap_u16]; omega
  have HTW := Lib.hid (WTwoF_in (sesF_ok rv cl) x cs.length out w ho (by omega) hcl)
  have HP := Lib.hid (show ∀ W, Tch (· = x) w W → W.cell? ⟨p, 1, none⟩ = some (.slice (some ⟨g, 0, none⟩) n c) ∧ W.cell? ⟨g, k, none⟩ = some (.pointer (some ⟨x, 0, none⟩)) ∧ Bs W (some ad) cs from fun W hW => ⟨(hW.cells h.lt hpx 1).trans p1, (hW.cells (World.block_lt_of_cell? w _ hx) hgx k).trans hx, fun _ => by
    obtain ⟨g2, off2, e1, e2, e3⟩ := hc hne
    injection e1 with e1
    subst e1
    exact ⟨g2, off2, rfl, Nat.lt_of_lt_of_le e2 hW.size, fun i u hi => (hW.cells e2 had _).trans (e3 i u hi)⟩⟩)
  have HNE := Lib.hid (show cs ≠ [] ∧ out.length + cs.length ≤ 60000000 from ⟨hne, hl⟩)
  clear h ho hc hne hl had hpx hgx
  go_enter Tryz.func105, Tryz.ntmps105
  go_wp2_with fail
  refine HTW.out.mono ?_
  rintro en w1 ⟨⟨u, rfl⟩, h2, h3, h4⟩
  have q1 := (HP.out w1 h3).1
  have q2 := (HP.out w1 h3).2.1
  have HPU := Lib.hid (WPutF_in (sesF_ok rv cl) x (out ++ le cs.length 2) cs ad d w1 h2 (HP.out w1 h3).2.2 HNE.out.1 (by have := HNE.out.2; simp [Oc.le_len]; omega))
  have HT1 := Lib.hid h3
  clear h2 h3 h4 p1 hx HTW
  go_wp2_with fail
  refine HPU.out.mono ?_
  rintro en w2 ⟨⟨u', rfl⟩, h2, h3, h4⟩
  have HF := Lib.hid (show ∀ u, TlOut rv cl x (out ++ le cs.length 2 ++ cs) w (.returned u) w2 from fun u => ⟨⟨_, rfl⟩, h2, HT1.out.trans h3, fun A c hAc g off e => Nat.le_trans HT1.out.size (h4 A c hAc g off e)⟩)
  clear h2 h3 h4
  go_wp2_with fail
  exact bodyPost_end (results_none Tryz.results105 _ _ _) rfl (HF.out _)

end Go.Proofs.YtkmpchffflemcaaGreatDoor.En
end

/- Layer 31: a piece that is answered at once. -/
section
set_option linter.unusedVariables false
set_option linter.unusedSimpArgs false
namespace Go.Proofs.YtkmpchffflemcaaGreatDoor.En
open Go.RowKit
open Go.Proofs.YtkmpchffflemcaaGreatDoor.Oc (le val Bs okA FrOk WrF AdF)
open Go.Proofs.YtkmpchffflemcaaGreatDoor.Eg (EnArr MapL lkp doesL)

/-- a store beside a session and its bytes -/
theorem wrf_other {F : Value → Array Value} {o : Nat} {t t2 : TypeId} {w : World} {x p : Nat} {bs : By} {cs : Array Value} (h : WrF F o t w x bs) (hp : Arr w p t2 cs) (hxp : x ≠ p) (hne : bs ≠ []) (hcs : ∀ i : Nat, (∃ a, cs[i]? = some (.pointer a)) ∨ (∃ a n c, cs[i]? = some (.slice a n c)) ∨ cs[i]? = none) (j : Nat) (u : Value) : WrF F o t (w.setCell ⟨p, j, none⟩ u) x bs := by
  obtain ⟨A, c, q1, q2, q3⟩ := h.ex
  obtain ⟨g, off, e1, e2, e3⟩ := q2 hne
  have hgp : g ≠ p := fun e => by
    subst e
    obtain ⟨y, ys, rfl⟩ := List.exists_cons_of_ne_nil hne
    have h3 := e3 0 (.int .u8 (y.toNat : Int)) rfl
    rw [Nat.add_zero, hp.cell off] at h3
    rcases hcs off with ⟨a, h4⟩ | ⟨a, n, c, h4⟩ | h4 <;> rw [h4] at h3 <;> cases h3
  refine ⟨A, c, q1.other (p := ⟨p, j, none⟩) hxp u, fun _ => ⟨g, off, e1, ?_, fun i u' hi => ?_⟩, q3⟩
  · simpa using e2
  · exact ((Tch.at w p j u).cells e2 hgp _).trans (e3 i u' hi)
def AkOut (e p g n c x : Nat) (rv : Value) (cl : Bool) (bs : By) (w : World) (en : Ending) (w' : World) : Prop := (∃ u, en = .returned u) ∧ Arr w' p 130 #[.pointer (some ⟨e, 0, none⟩), .slice (some ⟨g, 0, none⟩) n c, .slice none 0 0] ∧ WrF (sesF rv cl) 1 135 w' x bs ∧ Tch (fun k => k = x ∨ k = p) w w'
set_option maxRecDepth 100000 in
set_option maxHeartbeats 8000000 in
theorem ask1_in {w : World} {p e g n c k x cw : Nat} {rv mp v : Value} {cl : Bool} {out a : By} {lg sl bk Aw : Option Addr} (h : Arr w p 130 #[.pointer (some ⟨e, 0, none⟩), .slice (some ⟨g, 0, none⟩) n c, .slice none 0 0]) (hk : k < n) (hx : w.cell? ⟨g, k, none⟩ = some (.pointer (some ⟨x, 0, none⟩))) (hne : p ≠ x ∧ g ≠ x ∧ g ≠ p ∧ e ≠ x ∧ e ≠ p) (ho : WrF (sesF rv cl) 1 135 w x out) (hE : EnArr w e true lg sl bk (.slice Aw 0 cw) mp) (ha : a ≠ []) (hl : out.length + a.length ≤ 60000000) (hal : a.length < 65536)
    (hD : Calls Tryz.prog 44 #[.pointer (some ⟨e, 0, none⟩), v] w (DoOut [a] (fun w' => Below w.heap.size w w') w)) :
    Calls Tryz.prog 49 #[.pointer (some ⟨p, 0, none⟩), .int .i64 k, v] w (AkOut e p g n c x rv cl (out ++ le a.length 2 ++ a) w) := by
  have p0 : w.cell? ⟨p, 0, none⟩ = some (.pointer (some ⟨e, 0, none⟩)) := h.cell 0
  have H := Lib.hid h; have HX := Lib.hid hx; have HO := Lib.hid ho; have HE := Lib.hid hE; have HD := Lib.hid hD; have HNE := Lib.hid hne
  have HA := Lib.hid (show a ≠ [] ∧ out.length + a.length ≤ 60000000 ∧ a.length < 65536 ∧ k < n from ⟨ha, hl, hal, hk⟩)
  clear h hx ho hE hD hne ha hl hal hk
  go_enter Tryz.func49, Tryz.ntmps49
  go_wp2_with fail
  refine HD.out.mono ?_
  rintro en w1 ⟨v1, G, C, rfl, hO, hb⟩
  obtain ⟨g2, c2, rfl, _, _, _, hg2⟩ := hO.row.form (by simp)
  have c0 : w1.cell? ⟨g2, 0, none⟩ = some (.slice (some ⟨G 0, 0, none⟩) a.length (C 0)) := by
    have := hO.row.range (i := 0) (fun i => rfl) (by simp) 0 (.slice (some ⟨G 0, 0, none⟩) a.length (C 0)) (by simp)
    simpa using this
  obtain ⟨hbk, hcap, hbase, hown⟩ := hO.each 0 (by simp)
  have HB := Lib.hid hb
  have hxl : x < w.heap.size := by obtain ⟨_, _, q, _⟩ := HO.out.ex; exact q.lt
  have HTL := Lib.hid (tell_in (H.out.keep hb) HA.out.2.2.2 ((hb.cell (p := ⟨g, k, none⟩) (World.block_lt_of_cell? w _ HX.out)).trans HX.out) HNE.out.1 HNE.out.2.1 (HO.out.keep hb) a ⟨G 0, 0, none⟩ (C 0) (Blk.bs hbk) (by show G 0 ≠ x; omega) HA.out.1 HA.out.2.1 HA.out.2.2.1)
  clear hO hbk hcap hbase hown hb p0 HD hxl
  go_wp2_with fail
  go_loopw [21] (fun i wr => (i = .int .i64 0 ∧ wr = w1) ∨ (i = .int .i64 1 ∧ WrF (sesF rv cl) 1 135 wr x (out ++ le a.length 2 ++ a) ∧ Tch (· = x) w1 wr)) (fun i _ => (1 - intOf i).toNat)
  case atStart => exact .inl ⟨rfl, rfl⟩
  case round =>
    rcases hrel with ⟨rfl, rfl⟩ | ⟨rfl, h1, h2⟩
    · go_wp2_with fail
      refine HTL.out.mono ?_
      rintro en w2 ⟨⟨u, rfl⟩, h2, h3, h4⟩
      have HF := Lib.hid (show WrF (sesF rv cl) 1 135 w2 x (out ++ le a.length 2 ++ a) ∧ Tch (· = x) wr w2 from ⟨h2, h3⟩)
      clear h2 h3 h4 HTL
      go_wp2_with fail
      go_roundw
      case rel => exact .inr ⟨rfl, HF.out⟩
      case measure => simp [intOf]
    · have hp := h2.arr (H.out.keep HB.out) HNE.out.1
      have he := h2.arr (Arr.keep HE.out HB.out) HNE.out.2.2.2.1
      have p0 : wr.cell? ⟨p, 0, none⟩ = some (.pointer (some ⟨e, 0, none⟩)) := hp.cell 0
      have HP := Lib.hid hp; have HPE := Lib.hid (Pending_no he)
      have p2 : wr.cell? ⟨p, 2, none⟩ = some (.slice none 0 0) := hp.cell 2
      have m2 := hp.mark 2
      have HW := Lib.hid h1; have HT := Lib.hid h2
      clear hp he h1 h2 c0
      go_wp2_with fail
      refine HPE.out.mono ?_
      rintro en wq ⟨rfl, hwq⟩
      rw [hwq]
      clear hwq wq
      have HF := Lib.hid (show ∀ u, AkOut e p g n c x rv cl (out ++ le a.length 2 ++ a) w (.returned u) (wr.setCell ⟨p, 2, none⟩ (.slice none 0 0)) from fun u => by
        refine ⟨⟨_, rfl⟩, HP.out.put 2 _, ?_, ?_⟩
        · exact wrf_other HW.out HP.out (fun e => HNE.out.1 e.symm) (by simp [HA.out.1]) (fun i => by
            rcases i with _ | _ | _ | i
            · exact .inl ⟨_, rfl⟩
            · exact .inr (.inl ⟨_, _, _, rfl⟩)
            · exact .inr (.inl ⟨_, _, _, rfl⟩)
            · exact .inr (.inr (by simp))) 2 _
        · exact ((Tch.of_below HB.out).trans (HT.out.mono fun k _ e => .inl e)).trans ((Tch.at wr p 2 _).mono fun k _ e => .inr e))
      go_wp2_with fail
      exact bodyPost_end (results_none Tryz.results49 _ _ _) rfl (HF.out _)

end Go.Proofs.YtkmpchffflemcaaGreatDoor.En
end

/- Layer 31: Feed of one piece that is answered at once; Take. -/
section
set_option linter.unusedVariables false
set_option linter.unusedSimpArgs false
namespace Go.Proofs.YtkmpchffflemcaaGreatDoor.En
open Go.RowKit
open Go.Proofs.YtkmpchffflemcaaGreatDoor.Oc (le val Bs okA FrOk WrF AdF ClOut WOutF_in)
open Go.Proofs.YtkmpchffflemcaaGreatDoor.Eg (EnArr MapL lkp doesL)

def FdOut (S : Nat → Prop) (e p g n c x : Nat) (cl : Bool) (bs : By) (w : World) (en : Ending) (w' : World) : Prop := ∃ rv, en = .returned (.int .i64 0) ∧ Arr w' p 130 #[.pointer (some ⟨e, 0, none⟩), .slice (some ⟨g, 0, none⟩) n c, .slice none 0 0] ∧ WrF (sesF rv cl) 1 135 w' x bs ∧ Tch (fun k => S k ∨ k = p) w w'
set_option maxRecDepth 100000 in
set_option maxHeartbeats 8000000 in
theorem Feed1_in {S : Nat → Prop} {w : World} {p e g n c k x cw q : Nat} {mp : Value} {lg sl bk Aw : Option Addr} {s : Ses} (h : Arr w p 130 #[.pointer (some ⟨e, 0, none⟩), .slice (some ⟨g, 0, none⟩) n c, .slice none 0 0]) (hk : k < n) (hx : w.cell? ⟨g, k, none⟩ = some (.pointer (some ⟨x, 0, none⟩))) (hs : SesAt S w x s) (hcl : s.closed = false) (hS : ∀ k, S k → k < w.heap.size) (hne : ¬ S p ∧ ¬ S g ∧ ¬ S e ∧ g ≠ p ∧ e ≠ p) (hE : EnArr w e true lg sl bk (.slice Aw 0 cw) mp)
    (b pc a : By) (Ab : Option Addr) (cb : Nat) (hB : Bs w Ab b) (hlen : s.rest.length + b.length ≤ 100000000) (hcut : cutP (s.rest ++ b) = ([pc], q, 0)) (hpc : pc ≠ []) (ha : a ≠ []) (hl : s.out.length + a.length ≤ 60000000) (hal : a.length < 65536)
    (hD : ∀ W, Tch S w W → ∀ A c, Bs W A pc → okA A → Calls Tryz.prog 44 #[.pointer (some ⟨e, 0, none⟩), .slice A pc.length c] W (DoOut [a] (fun w' => Below W.heap.size W w') W)) :
    Calls Tryz.prog 21 #[.pointer (some ⟨p, 0, none⟩), .int .i64 k, .slice Ab b.length cb] w (FdOut S e p g n c x false (s.out ++ le a.length 2 ++ a) w) := by
  have p1 : w.cell? ⟨p, 1, none⟩ = some (.slice (some ⟨g, 0, none⟩) n c) := h.cell 1
  have hk0 : (0 : Int) ≤ (k : Int) := by omega
  have hkn : (k : Int) < (n : Int) := by omega
  have HMD := Lib.hid (srvMade_in h); have HTH := Lib.hid (srvThere_in h k hk)
  have HSC := Lib.hid (scut_in hs hcl hS b Ab cb hB hlen)
  have H := Lib.hid h; have HX := Lib.hid hx; have HE := Lib.hid hE; have HD := Lib.hid hD; have HNE := Lib.hid hne; have HS := Lib.hid hs; have HK := Lib.hid hk
  have HQ := Lib.hid (show cutP (s.rest ++ b) = ([pc], q, 0) ∧ pc ≠ [] ∧ a ≠ [] ∧ s.out.length + a.length ≤ 60000000 ∧ a.length < 65536 ∧ s.closed = false from ⟨hcut, hpc, ha, hl, hal, hcl⟩)
  clear h hs hcl hS hne hE hB hlen hcut hpc ha hl hal hD hk
  go_enter Tryz.func21, Tryz.ntmps21
  go_wp2_with fail
  refine HMD.out.mono ?_
  rintro en wq ⟨rfl, hwq⟩
  rw [hwq]
  clear hwq wq
  go_wp2_with fail
  refine HTH.out.mono ?_
  rintro en wq ⟨rfl, hwq⟩
  rw [hwq]
  clear hwq wq
  go_wp2_with fail
  refine HSC.out.mono ?_
  rintro en w4 ⟨v, A, C, m, rfl, hR, hs4, ht4, hm1, hm2⟩
  rw [HQ.out.1] at hR ⊢
  have hR1 := hR.row.form (by simp)
  obtain ⟨g2, c2, rfl, _, _, _, hg2⟩ := hR1
  have c0 : w4.cell? ⟨g2, 0, none⟩ = some (.slice (A 0) pc.length (C 0)) := by
    have := hR.row.range (i := 0) (fun i => rfl) (by simp) 0 (.slice (A 0) pc.length (C 0)) (by simp)
    simpa using this
  obtain ⟨gp, hA0, hbk', _, _⟩ := hR.blk 0 (by simp) (by simpa using HQ.out.2.1)
  have hbk := hbk'.blk
  have hB4 : Bs w4 (A 0) pc := by rw [hA0]; exact Blk.bs hbk
  have hok : okA (A 0) := by rw [hA0]; exact Oc.okA_some _ _
  have hfe : (s.feed b).out = s.out ∧ (s.feed b).closed = false := by
    unfold Ses.feed
    rw [HQ.out.1, if_pos rfl]
    exact ⟨rfl, HQ.out.2.2.2.2.2⟩
  obtain ⟨A1, c1, B1, d1, h1, h2, h3, h4, h5, h6, h7⟩ := hs4.ex
  rw [hfe.1, hfe.2] at h1
  rw [hfe.1] at h3 h4 h5
  have hwr : WrF (sesF (.slice A1 (s.feed b).rest.length c1) false) 1 135 w4 x s.out := ⟨B1, d1, h1, h3, h4, h5, h6, fun g off e => (h7 g off e).1⟩
  have hxS := HS.out.own
  have HXS := Lib.hid hxS; have HT4 := Lib.hid ht4
  have HAK := Lib.hid (ask1_in (ht4.arr H.out HNE.out.1) HK.out ((World.cell?_of_block (a := ⟨g, k, none⟩) (ht4.block g (World.block_lt_of_cell? w _ HX.out) HNE.out.2.1)).trans HX.out) ⟨fun e => HNE.out.1 (e ▸ hxS), fun e => HNE.out.2.1 (e ▸ hxS), HNE.out.2.2.2.1, fun e => HNE.out.2.2.1 (e ▸ hxS), HNE.out.2.2.2.2⟩ hwr (ht4.arr HE.out HNE.out.2.2.1) HQ.out.2.2.1 HQ.out.2.2.2.1 HQ.out.2.2.2.2.1 (HD.out w4 ht4 _ (C 0) hB4 hok))
  clear hR hs4 ht4 hm1 hm2 hA0 hbk hbk' hB4 hok hfe h1 h2 h3 h4 h5 h6 h7 hwr HD HSC HMD HTH p1 hx
  go_wp2_with fail
  go_loopw [34] (fun i wr => (i = .int .i64 0 ∧ wr = w4) ∨ (i = .int .i64 1 ∧ FdOut S e p g n c x false (s.out ++ le a.length 2 ++ a) w (.returned (.int .i64 0)) wr)) (fun i _ => (1 - intOf i).toNat)
  case atStart => exact .inl ⟨rfl, rfl⟩
  case round =>
    rcases hrel with ⟨rfl, rfl⟩ | ⟨rfl, h1⟩
    · go_wp2_with fail
      refine HAK.out.mono ?_
      rintro en w2 ⟨⟨u, rfl⟩, h2, h3, h4⟩
      have HF := Lib.hid (show FdOut S e p g n c x false (s.out ++ le a.length 2 ++ a) w (.returned (.int .i64 0)) w2 from ⟨_, rfl, h2, h3, (HT4.out.mono fun k _ h => .inl h).trans (h4.mono fun k _ h => h.elim (fun h => .inl (by rw [h]; exact HXS.out)) .inr)⟩)
      clear h2 h3 h4 HAK
      go_wp2_with fail
      go_roundw
      case rel => exact .inr ⟨rfl, HF.out⟩
      case measure => simp [intOf]
    · have HF := Lib.hid h1
      clear h1 c0
      go_wp2_with fail
      go_ret
      exact HF.out
def TkOut (x : Nat) (bs : By) (w : World) (en : Ending) (w' : World) : Prop := ∃ B d, en = .returned (.tuple #[.slice B bs.length d, .int .i64 0]) ∧ Bs w' B bs ∧ Tch (· = x) w w'
set_option maxRecDepth 100000 in
set_option maxHeartbeats 8000000 in
theorem Take_in {w : World} {p e g n c k x : Nat} {rv u2 : Value} {cl : Bool} {bs : By} (h : Arr w p 130 #[.pointer (some ⟨e, 0, none⟩), .slice (some ⟨g, 0, none⟩) n c, u2]) (hk : k < n) (hx : w.cell? ⟨g, k, none⟩ = some (.pointer (some ⟨x, 0, none⟩))) (ho : WrF (sesF rv cl) 1 135 w x bs) (hl : bs.length ≤ 70000000) :
    Calls Tryz.prog 22 #[.pointer (some ⟨p, 0, none⟩), .int .i64 k] w (TkOut x bs w) := by
  have p1 : w.cell? ⟨p, 1, none⟩ = some (.slice (some ⟨g, 0, none⟩) n c) := h.cell 1
  have hk0 : (0 : Int) ≤ (k : Int) := by omega
  have hkn : (k : Int) < (n : Int) := by omega
  have HMD := Lib.hid (srvMade_in h); have HTH := Lib.hid (srvThere_in h k hk)
  have HOU := Lib.hid (WOutF_in (sesF_ok rv cl) x bs w ho hl)
  have HO := Lib.hid ho
  clear h ho hk
  go_enter Tryz.func22, Tryz.ntmps22
  go_wp2_with fail
  refine HMD.out.mono ?_
  rintro en wq ⟨rfl, hwq⟩
  rw [hwq]
  clear hwq wq
  go_wp2_with fail
  refine HTH.out.mono ?_
  rintro en wq ⟨rfl, hwq⟩
  rw [hwq]
  clear hwq wq
  go_wp2_with fail
  refine HOU.out.mono ?_
  rintro en w1 ⟨B, d, rfl, h2, h3, h4, h5, h6⟩
  obtain ⟨A0, c0, q1, q2, q3⟩ := HO.out.ex
  have hq := q1.keep h6
  have y1 : w1.cell? ⟨x, 1, none⟩ = some (.slice A0 bs.length c0) := hq.cell 1
  have m1 := hq.mark 1
  have hxl := q1.lt
  have HF := Lib.hid (show TkOut x bs w (.returned (.tuple #[.slice B bs.length d, .int .i64 0])) (w1.setCell ⟨x, 1, none⟩ (.slice none 0 0)) from ⟨B, d, rfl, fun hne => by
    obtain ⟨g2, e1, e2, e3⟩ := h2 hne
    obtain ⟨g3, off3, f1, f2, f3⟩ := Blk.bs e3 hne
    injection f1 with f1
    injection f1 with f1 f1'
    subst f1 f1'
    refine ⟨g2, 0, e1, by simpa using f2, fun i u hi => ?_⟩
    exact ((Tch.at w1 x 1 _).cells f2 (by omega) _).trans (f3 i u hi), (Tch.of_below h6).trans (Tch.at w1 x 1 _)⟩)
  clear h2 h3 h4 h5 h6 q1 q2 q3 hq hxl HOU HMD HTH HO
  go_wp2_with fail
  go_ret2
  exact HF.out

end Go.Proofs.YtkmpchffflemcaaGreatDoor.En
end

/- Layer 31: server.New over an engine in which nothing waits. -/
section
set_option linter.unusedVariables false
set_option linter.unusedSimpArgs false
namespace Go.Proofs.YtkmpchffflemcaaGreatDoor.En
open Go.RowKit
open Go.Proofs.YtkmpchffflemcaaGreatDoor.Oc (le val Bs okA FrOk WrF AdF ClOut)
open Go.Proofs.YtkmpchffflemcaaGreatDoor.Eg (EnArr MapL lkp doesL)

theorem sess_info : (Tryz.prog.info? 131).map (fun i => (i.zero, i.size, i.bytes)) = some (some (.pointer none), 1, 8) := by kernel_rfl
def Nil3 : Array Value := #[.slice none 0 0, .slice none 0 0, .bool false]
/-- a server with so many new sessions -/
def NwS (base s e j : Nat) (v : Value) (X : Nat → Nat) (w : World) : Prop := Arr w s 130 #[.pointer (some ⟨e, 0, none⟩), v, .slice none 0 0] ∧ RowIn (fun k => v.ownBlock = some k) w 131 1 v j (fun i => [.pointer (some ⟨X i, 0, none⟩)]) ∧ (∀ i, i < j → Arr w (X i) 135 Nil3 ∧ base ≤ X i) ∧ (∀ i i', i < j → i' < j → X i = X i' → i = i') ∧ (∀ k, v.ownBlock = some k → base ≤ k) ∧ base ≤ s
def NwO (n e : Nat) (w : World) (en : Ending) (w' : World) : Prop := ∃ s v X, en = .returned (.tuple #[.pointer (some ⟨s, 0, none⟩), .int .i64 0]) ∧ NwS w.heap.size s e n v X w' ∧ Below w.heap.size w w'
set_option maxRecDepth 100000 in
set_option maxHeartbeats 8000000 in
theorem srvNew_in {w : World} {e n cw : Nat} {mp : Value} {lg sl bk Aw : Option Addr} (hE : EnArr w e true lg sl bk (.slice Aw 0 cw) mp) (hT : RpTab w) (hn : 1 ≤ n ∧ n ≤ 64) :
    Calls Tryz.prog 20 #[.pointer (some ⟨e, 0, none⟩), .int .i64 n] w (NwO n e w) := by
  obtain ⟨j0, hj, hz0, hz1, hz2⟩ := info_parts sess_info
  have HDO := Lib.hid (DoBad_in hE hT [] none 0 (Oc.Bs.nil _ _) Oc.okA_none (by simp) (by decide))
  have HE := Lib.hid hE
  have hn1 : ¬ (n : Int) < 1 := by omega
  have hn2 : ¬ (64 : Int) < (n : Int) := by omega
  have HN := Lib.hid hn
  clear hE hT hn
  go_enter Tryz.func20, Tryz.ntmps20
  go_wp2_with fail
  refine HDO.out.mono ?_
  rintro en w1 ⟨v1, G, C, rfl, hO, hb⟩
  obtain ⟨A1, c1, rfl⟩ := hO.row.any
  have HB1 := Lib.hid hb
  clear hO hb HDO
  obtain ⟨s, hse⟩ : ∃ s, w1.heap.size = s := ⟨_, rfl⟩
  obtain ⟨w2, hw2⟩ : ∃ w2, w1.alloc (.cells #[.pointer (some ⟨e, 0, none⟩), .slice none 0 0, .slice none 0 0] 130) = w2 := ⟨_, rfl⟩
  have HA2 := Lib.hid (show Arr w2 s 130 #[.pointer (some ⟨e, 0, none⟩), .slice none 0 0, .slice none 0 0] by rw [← hw2, ← hse]; exact Arr.fresh w1 _ _)
  have HB2 := Lib.hid (show Below w.heap.size w w2 by rw [← hw2]; exact ext_alloc HB1.out _)
  have HS := Lib.hid (show w.heap.size ≤ s by have := HB1.out.size; omega)
  go_wp2_with fail
  go_loopw [23] (fun i wr => ∃ (j : Nat) (v : Value) (X : Nat → Nat), j ≤ n ∧ i = .int .i64 j ∧ NwS w.heap.size s e j v X wr ∧ Below w.heap.size w wr) (fun i _ => (n - intOf i).toNat)
  case atStart => exact ⟨0, .slice none 0 0, fun _ => 0, Nat.zero_le _, rfl, ⟨HA2.out, RowIn.nil _ _ _ _ _, fun i hi => absurd hi (Nat.not_lt_zero _), fun i i' hi => absurd hi (Nat.not_lt_zero _), fun k hk => (by cases hk), HS.out⟩, HB2.out⟩
  case round =>
    obtain ⟨j, v, X, hj0, rfl, ⟨h1, h2, h3, h4, h5, h6⟩, hb⟩ := hrel
    obtain ⟨Av, cv, rfl⟩ := h2.any
    by_cases hjn : j < n
    · have hjn' : (j : Int) < (n : Int) := by omega
      have y1 : wr.cell? ⟨s, 1, none⟩ = some (.slice Av j cv) := h1.cell 1
      have hj64 : j < 64 := by have := HN.out; omega
      obtain ⟨x, hxe⟩ : ∃ x, wr.heap.size = x := ⟨_, rfl⟩
      obtain ⟨w3, hw3⟩ : ∃ w3, wr.alloc (.cells #[.slice none 0 0, .slice none 0 0, .bool false] 135) = w3 := ⟨_, rfl⟩
      have ha3 : Arr w3 x 135 Nil3 := by rw [← hw3, ← hxe]; exact Arr.fresh wr _ _
      have hb3 : Below wr.heap.size wr w3 := by rw [← hw3]; exact ext_alloc (Below.refl _ _) _
      have hb4 : Below w3.heap.size w3 (w3.alloc (.cells #[.pointer (some ⟨x, 0, none⟩)] 131)) := ext_alloc (Below.refl _ _) _
      have hb5 := ext_trans hb3 hb4
      have HP3 := Lib.hid (h1.keep hb5)
      have HR3 := Lib.hid (h2.keep hb5)
      have HX3 := Lib.hid (ha3.keep hb4)
      have HO3 := Lib.hid (show ∀ i, i < j → Arr (w3.alloc (.cells #[.pointer (some ⟨x, 0, none⟩)] 131)) (X i) 135 Nil3 ∧ w.heap.size ≤ X i ∧ X i < x from fun i hi => ⟨((h3 i hi).1).keep hb5, (h3 i hi).2, by rw [← hxe]; exact (h3 i hi).1.lt⟩)
      have HOLD := Lib.hid (show ∀ k, (Value.slice Av j cv).ownBlock = some k → k < x from fun k e => by rw [← hxe]; exact (own_lt h2.own e).1)
      have HI := Lib.hid h4; have HV := Lib.hid h5; have HSB := Lib.hid h6
      have HB5 := Lib.hid (ext_trans hb hb5)
      have HXE := Lib.hid (show w.heap.size ≤ x ∧ s < x ∧ w3.heap.size = x + 1 from ⟨by rw [← hxe]; exact hb.size, by rw [← hxe]; exact h1.lt, by rw [← hw3, ← hxe]; simp⟩)
      clear h1 h2 h3 h4 h5 h6 ha3 hb3 hb4 hb5 hb HA2 HB2
      go_wp2_with (refine wpList_append_elem _ rfl (.tmp 29) (.tmp 32) 127 rfl 131 j0 (.pointer none) 1 8 Tryz.underlying127 hj hz0 hz1 hz2 rfl (by decide) (.slice Av j cv) j _ rfl HR3.out ⟨w3.heap.size, 0, none⟩ 1 [.pointer (some ⟨x, 0, none⟩)] rfl rfl (news_any w3 _ _) (by intro u hu; simp at hu; subst hu; rfl) (by unfold maxLen; omega) (by omega) ?_; intro ga ca w8 hr8 hg8; have HN8 := Lib.hid (show RowIn _ w8 _ _ _ _ _ ∧ (w3.alloc (.cells #[.pointer (some ⟨x, 0, none⟩)] 131)).grownBy w8 (Value.slice Av j cv).ownBlock from ⟨hr8, hg8⟩); have HP8 := Lib.hid (HP3.out.grownTo hg8 (fun e => HR3.out.ne_obj e HP3.out (fun cur e => by injection e with _ e2; exact absurd e2 (by decide)) rfl)); have z1 := HP8.out.cell 1; have z2 := HP8.out.mark 1; clear hr8 hg8)
      have hw0 : (w3.alloc (.cells #[.pointer (some ⟨x, 0, none⟩)] 131)).heap.size = x + 2 := by have := HXE.out.2.2; simp; omega
      have hga := HN8.out.1.block ga rfl
      have hgs : s ≠ ga := HN8.out.1.ne_obj rfl HP8.out (fun cur e => by injection e with _ e2; exact absurd e2 (by decide))
      have hses : ∀ q, Arr (w3.alloc (.cells #[.pointer (some ⟨x, 0, none⟩)] 131)) q 135 Nil3 → Arr (w8.setCell ⟨s, 1, none⟩ (.slice (some ⟨ga, 0, none⟩) (j + 1) ca)) q 135 Nil3 := fun q hq => by
        refine (hq.grownTo HN8.out.2 (fun e => HR3.out.ne_obj e hq (fun cur e => by injection e with _ e2; exact absurd e2 (by decide)) rfl)).other (p := ⟨s, 1, none⟩) (fun e => ?_) _
        have e' : q = s := e
        subst e'
        have h7 := HP3.out
        unfold Arr at h7 hq
        rw [h7] at hq
        injection hq with hq
        injection hq with _ hq _
        exact absurd hq (by decide)
      refine ⟨⟨j + 1, .slice (some ⟨ga, 0, none⟩) (j + 1) ca, fun i => if i = j then x else X i, hjn, by go_num, ⟨HP8.out.put 1 _, ⟨?_, fun g hg => hg⟩, fun i hi => ?_, fun i i' hi hi' he => ?_, fun k hk => ?_, HSB.out⟩, ?_⟩, by simp [intOf]; omega⟩
      · have h7 := own_same HN8.out.1.own (w' := w8.setCell ⟨s, 1, none⟩ (.slice (some ⟨ga, 0, none⟩) (j + 1) ca)) fun g hg => (Tch.at w8 s 1 _).block g (own_lt HN8.out.1.own hg).1 (fun e => hgs (e.symm.trans (show ga = g by simpa [Value.ownBlock] using hg).symm))
        have hf : (setL (fun i => [Value.pointer (some ⟨X i, 0, none⟩)]) j [.pointer (some ⟨x, 0, none⟩)]) = fun i => [Value.pointer (some ⟨if i = j then x else X i, 0, none⟩)] := funext fun i => by
          unfold setL
          split <;> rename_i h <;> simp [h]
        rw [hf] at h7
        exact h7
      · by_cases hij : i = j
        · simp only [if_pos hij]
          exact ⟨hses _ HX3.out, HXE.out.1⟩
        · simp only [if_neg hij]
          exact ⟨hses _ (HO3.out i (by omega)).1, (HO3.out i (by omega)).2.1⟩
      · by_cases hij : i = j <;> by_cases hij' : i' = j
        · omega
        · simp only [if_pos hij, if_neg hij'] at he
          have := (HO3.out i' (by omega)).2.2
          omega
        · simp only [if_neg hij, if_pos hij'] at he
          have := (HO3.out i (by omega)).2.2
          omega
        · simp only [if_neg hij, if_neg hij'] at he
          exact HI.out i i' (by omega) (by omega) he
      · have hk' : ga = k := by simpa [Value.ownBlock] using hk
        subst hk'
        rcases hga with h | h
        · exact HV.out _ h
        · have := HXE.out.1; omega
      · exact (HB5.out.grown HN8.out.2 HB5.out.size (fun k e => HV.out k e)).setCell (by exact HSB.out) _
    · obtain rfl : j = n := by omega
      have hp := h1
      have he := (Arr.keep HE.out hb)
      have HPE := Lib.hid (Pending_no he)
      have HF := Lib.hid (show NwO j e w (.returned (.tuple #[.pointer (some ⟨s, 0, none⟩), .int .i64 0])) wr from ⟨s, _, X, rfl, ⟨h1, h2, h3, h4, h5, h6⟩, hb⟩)
      clear hp he h1 h2 h3 h4 h5 h6 hb
      go_wp2_with fail
      refine HPE.out.mono ?_
      rintro en wq ⟨rfl, hwq⟩
      rw [hwq]
      clear hwq wq
      go_wp2_with fail
      go_loopw [39] (fun i wz => i = .int .i64 0 ∧ wz = wr) (fun i _ => 0)
      case atStart => exact ⟨rfl, rfl⟩
      case round =>
        obtain ⟨rfl, hw⟩ := hrel
        rw [hw]
        go_wp2_with fail
        go_ret2
        exact HF.out

end Go.Proofs.YtkmpchffflemcaaGreatDoor.En
end
