/- Packed: Rf31, Rf31b. -/
import Derived.Test.YtkmpchffflemcaaGreatDoorPk14
import Derived.Test.YtkmpchffflemcaaGreatDoorPk11
import Derived.Laws.Slices
set_option linter.unusedVariables false
set_option linter.unusedSimpArgs false
/- Layer 31's document: Cut, any bytes. -/
section
set_option linter.unusedVariables false
set_option linter.unusedSimpArgs false
namespace Go.Proofs.YtkmpchffflemcaaGreatDoor.En
open Go.RowKit
open Go.Proofs.YtkmpchffflemcaaGreatDoor.Oc (u8_info le val Bs okA okA_none okA_some Buf wp_buf bytesV byteV bytesV_len)
open Go.Proofs.YtkmpchffflemcaaGreatDoor.Fl (Rws)

/-- a row of rows of bytes that can be read: each lies in a block of bytes -/
structure BufsAt (w : World) (v : Value) (L : List By) (A : Nat → Option Addr) (C : Nat → Nat) : Prop where
  row : RowIn (fun k => v.ownBlock = some k) w 22 1 v L.length (fun i => [.slice (A i) (L.getD i []).length (C i)])
  each : ∀ i, i < L.length → Buf w (A i) (C i) (L.getD i []) (fun _ => True)
theorem buf_keep {w w' : World} {A : Option Addr} {c : Nat} {bs : By} {S : Nat → Prop} (h : Buf w A c bs S) (hk : ∀ g cs, Arr w g 5 cs → w'.heap[g]? = w.heap[g]?) : Buf w' A c bs S := by
  rcases h.ex with h | ⟨g, off, cur, h0, h1, h2⟩
  · exact ⟨.inl h⟩
  · exact ⟨.inr ⟨g, off, cur, h0, (hk g cur h1).trans h1, h2⟩⟩
theorem BufsAt.keep {w w' : World} {v : Value} {L : List By} {A : Nat → Option Addr} {C : Nat → Nat} (h : BufsAt w v L A C) (hb : Below w.heap.size w w') : BufsAt w' v L A C :=
  ⟨h.row.keep hb, fun i hi => buf_keep (h.each i hi) fun g cs ha => hb.block g ha.lt⟩
theorem BufsAt.nil (w : World) : BufsAt w (.slice none 0 0) [] (fun _ => none) (fun _ => 0) :=
  ⟨⟨own_nil w 0 1 _, fun g h => h⟩, fun i hi => by simp at hi⟩
theorem BufsAt.snoc {wr w7 w8 : World} {v : Value} {L : List By} {A : Nat → Option Addr} {C : Nat → Nat} {x : By} {a2 : Option Addr} {c2 ga ca : Nat} {S : Nat → Prop} (h : BufsAt wr v L A C) (hb : Below wr.heap.size wr w7) (hx : Buf w7 a2 c2 x S)
    (hr : RowIn (fun k => v.ownBlock = some k ∨ k = w7.heap.size) w8 22 1 (.slice (some ⟨ga, 0, none⟩) (L.length + 1) ca) (L.length + 1) (setL (fun i => [.slice (A i) (L.getD i []).length (C i)]) L.length [.slice a2 x.length c2])) (hg : w7.grownBy w8 v.ownBlock) :
    BufsAt w8 (.slice (some ⟨ga, 0, none⟩) (L.length + 1) ca) (L ++ [x]) (fun i => if i = L.length then a2 else A i) (fun i => if i = L.length then c2 else C i) := by
  have hlen : (L ++ [x]).length = L.length + 1 := by simp
  have hrow7 := h.row.keep hb
  have hk : ∀ g cs, Arr w7 g 5 cs → w8.heap[g]? = w7.heap[g]? := fun g cs ha => hg.block g ha.lt (fun e => hrow7.ne_obj e.symm ha (fun cur e => by injection e with _ e2; revert e2; decide) rfl)
  have hfun : (fun i => [Value.slice (if i = L.length then a2 else A i) ((L ++ [x]).getD i []).length (if i = L.length then c2 else C i)]) = setL (fun i => [.slice (A i) (L.getD i []).length (C i)]) L.length [.slice a2 x.length c2] := by
    funext i
    rw [snoc_get]
    unfold setL
    by_cases hi : i = L.length
    · simp [hi]
    · simp [hi]
  refine ⟨⟨by rw [hlen, hfun]; exact hr.own, fun g hg => hg⟩, fun i hi => ?_⟩
  rw [snoc_get]
  by_cases hi2 : i = L.length
  · simp only [if_pos hi2]
    exact (buf_keep hx hk).mono fun _ _ => trivial
  · simp only [if_neg hi2]
    exact buf_keep (buf_keep (h.each i (by omega)) fun g cs ha => hb.block g ha.lt) hk
theorem BufsAt.rws {w : World} {v : Value} {L : List By} {A : Nat → Option Addr} {C : Nat → Nat} (h : BufsAt w v L A C) : Rws w v L := by
  obtain ⟨Av, cv, rfl⟩ := h.row.any
  refine ⟨Av, cv, rfl, fun hne => ?_⟩
  obtain ⟨g, cap, e, _, _, _, hg⟩ := h.row.form (List.length_pos_iff.2 hne)
  injection e with e1 _ e2
  subst e1 e2
  refine ⟨g, rfl, hg, fun i hi => ⟨A i, C i, ?_, (h.each i hi).bs⟩⟩
  have := h.row.range (i := i) (fun i => rfl) hi 0 (.slice (A i) (L.getD i []).length (C i)) (by simp)
  simpa using this
set_option maxRecDepth 100000 in
/-- a part of bytes that can be read -/
theorem bs_part {w : World} {A : Option Addr} {b : By} (h : Bs w A b) (hA : okA A) {n c lo hi : Nat} (hn : n = b.length) (h1 : lo ≤ hi) (h2 : hi ≤ n) (hc : n ≤ c) : ∃ A3, (∀ W : World, (Instr.slice 22 (.slice A n c) (some (.int .i64 (lo : Int))) (some (.int .i64 (hi : Int))) none).run Tryz.prog W = .ok (.slice A3 (hi - lo) (c - lo)) W) ∧ Bs w A3 ((b.drop lo).take (hi - lo)) := by
  obtain ⟨i0, hi', hz0, hz1, hz2⟩ := info_parts u8_info
  have hz : ∀ W : World, (sizeOf 5).run Tryz.prog W = .ok i0.size W := fun W => by simp [sizeOf, typeInfo, hi']
  subst hn
  refine ⟨if c = lo then A else A.map (·.add (lo * i0.size)), fun W => ?_, fun hne => ?_⟩
  · have h9 := run_slice_lh (P := Tryz.prog) W 22 A b.length c Tryz.underlying22 .i64 .i64 (lo : Int) (hi : Int) (by omega) (by omega) (by omega)
    refine h9.trans ?_
    refine (congrArg (fun q => Result.andThen q fun s w => Result.ok (sliced A (lo : Int).toNat (hi : Int).toNat c s) w) (hz W)).trans ?_
    simp only [Result.andThen, sliced, Int.toNat_natCast]
  · have hlt : lo < hi := by
      rcases Nat.lt_or_ge lo hi with h | h
      · exact h
      · exfalso; apply hne; rw [show hi - lo = 0 by omega]; rfl
    obtain ⟨g, off, rfl, _⟩ := h (fun e => by rw [e] at h2; simp at h2; omega)
    rw [if_neg (by omega), hz1, Nat.mul_one]
    have := ((h.drop lo).take (hi - lo)) hne
    simpa [Addr.add_lit] using this

end Go.Proofs.YtkmpchffflemcaaGreatDoor.En
end

/- Layer 31's document: Cut, walked. -/
section
set_option linter.unusedVariables false
set_option linter.unusedSimpArgs false
namespace Go.Proofs.YtkmpchffflemcaaGreatDoor.En
open Go.RowKit
open Go.Proofs.YtkmpchffflemcaaGreatDoor.Oc (u8_info le val Bs okA okA_none okA_some Buf wp_buf bytesV byteV bytesV_len)
open Go.Proofs.YtkmpchffflemcaaGreatDoor.Fl (Rws)

theorem val_two (x y : UInt8) (l : By) : val ((x :: y :: l).take 2) = x.toNat + 256 * y.toNat := by
  simp [val]
def Cut0Out (b : By) (w : World) (e : Ending) (w' : World) : Prop := ∃ v, e = .returned (.tuple #[v, .int .i64 (cutP b).2.1, .int .i64 (cutP b).2.2]) ∧ Rws w' v (cutP b).1 ∧ Below w.heap.size w w'
set_option maxRecDepth 100000 in
set_option maxHeartbeats 4000000 in
theorem Cut0_in (b : By) (A : Option Addr) (c : Nat) (w : World) (hB : Bs w A b) (hc : b.length ≤ c) (hl : b.length ≤ 100000000) : Calls Tryz.prog 6 #[.slice A b.length c] w (Cut0Out b w) := by
  obtain ⟨j0, hj, hz0, hz1, hz2⟩ := info_parts rows_info
  have HB := Lib.hid hB
  clear hB
  go_enter Tryz.func6, Tryz.ntmps6
  go_wp2_with fail
  go_loopw [5, 6] (fun v t wr => ∃ (L : List By) (AA : Nat → Option Addr) (C : Nat → Nat) (n : Nat), t = .int .i64 n ∧ BufsAt wr v L AA C ∧ (∀ j, v.ownBlock = some j → w.heap.size ≤ j) ∧ Below w.heap.size w wr ∧ n ≤ b.length ∧ 2 * L.length ≤ n ∧ cutP b = (L ++ (cutP (b.drop n)).1, n + (cutP (b.drop n)).2.1, (cutP (b.drop n)).2.2)) (fun _ t _ => (b.length - intOf t).toNat)
  case atStart => exact ⟨[], fun _ => none, fun _ => 0, 0, rfl, BufsAt.nil _, (fun j h => by cases h), Below.refl _ _, by simp, by simp, by simp⟩
  case round =>
    obtain ⟨L, AA, C, n, rfl, hO, hnew, hb, hn, hL, hcut⟩ := hrel
    have HNW := Lib.hid hnew
    clear hnew
    have HO := Lib.hid hO; have HBL := Lib.hid hb; have HC := Lib.hid hcut; have HN := Lib.hid (show n ≤ b.length ∧ 2 * L.length ≤ n from ⟨hn, hL⟩)
    clear hO hb hcut
    obtain ⟨r, hr⟩ : ∃ r, b.drop n = r := ⟨_, rfl⟩
    rw [hr] at HC
    have HR := Lib.hid hr
    have hrl : r.length = b.length - n := by rw [← hr, List.length_drop]
    by_cases h2 : n + 2 ≤ b.length
    · obtain ⟨x, y, r2, hxy⟩ : ∃ x y r2, r = x :: y :: r2 := by
        match r, hrl with
        | [], h => simp at h; omega
        | [_], h => simp at h; omega
        | x :: y :: r2, _ => exact ⟨x, y, r2, rfl⟩
      have hne : b ≠ [] := fun e => by rw [e] at h2; simp at h2
      obtain ⟨g, off, rfl, hg, hcell⟩ := (HB.out.keep HBL.out) hne
      have hx0 : b[n]? = some x := by have := congrArg (·[0]?) hr; rw [hxy] at this; simpa using this
      have hy0 : b[n + 1]? = some y := by have := congrArg (·[1]?) hr; rw [hxy] at this; simpa using this
      have y1 : wr.cell? ⟨g, off + n, none⟩ = some (.int .u8 (x.toNat : Int)) := hcell n _ (by simp [bytesV, hx0, byteV])
      have y2 : wr.cell? ⟨g, off + (n + 1), none⟩ = some (.int .u8 (y.toNat : Int)) := hcell (n + 1) _ (by simp [bytesV, hy0, byteV])
      have hn1 : (n : Int) < (b.length : Int) := by omega
      have hn2 : (n : Int) + 1 < (b.length : Int) := by omega
      have hn3 : (n : Int) + 2 ≤ (b.length : Int) := by omega
      have hn0 : (0 : Int) ≤ (n : Int) := by omega
      have hn4 : (0 : Int) ≤ (n : Int) + 1 := by omega
      have hwn : IntKind.i64.wrap ((n : Int) + 1) = (n : Int) + 1 := by rw [IntKind.wrap_i64]; omega
      obtain ⟨kx, hkx⟩ : ∃ kx, x.toNat = kx := ⟨_, rfl⟩
      obtain ⟨ky, hky⟩ : ∃ ky, y.toNat = ky := ⟨_, rfl⟩
      have hxb : kx < 256 := by rw [← hkx]; exact x.toNat_lt
      have hyb : ky < 256 := by rw [← hky]; exact y.toNat_lt
      rw [hkx] at y1
      rw [hky] at y2
      have HV := Lib.hid (show val (r.take 2) = kx + 256 * ky by rw [hxy, val_two, hkx, hky])
      have HX := Lib.hid hxy
      clear hcell hx0 hy0 hr hkx hky hxy
      go_wp2_with fail
      refine wp_region_held_drew (S := (fun w' => w'.cell? ⟨g, off + n, none⟩ = some (.int .u8 kx) ∧ w'.cell? ⟨g, off + (n + 1), none⟩ = some (.int .u8 ky))) (by kernel_rfl) (by exact ⟨y1, y2⟩) (fun hHeld => ?_)
      refine take_yes (i := 0) (oi := ?o1) (d := (some 13)) (v := ?v1) ?hi1 (by kernel_rfl) (by kernel_rfl) (by kernel_rfl) (fun _ _ _ h => h) ?hd1 ?hw1 ?hy1 (by assumption) ?_
      case hi1 => (simp only [List.getElem?_toArray, List.getElem?_cons_zero]; exact rfl)
      case hd1 => rfl
      case hw1 => rfl
      case hy1 => (intro w hSw; (try dsimp only at hSw); go_simp; try with_reducible rfl)
      try simp only [Act.put, List.setIfInBounds_toArray, List.set_cons_zero, List.set_cons_succ]
      refine take_yes (i := 1) (oi := ?o2) (d := (some 14)) (v := ?v2) ?hi2 (by kernel_rfl) (by kernel_rfl) (by kernel_rfl) (fun _ _ _ h => h) ?hd2 ?hw2 ?hy2 (by assumption) ?_
      case hi2 => (simp only [List.getElem?_toArray, List.getElem?_cons_zero, List.getElem?_cons_succ]; exact rfl)
      case hd2 => rfl
      case hw2 => rfl
      case hy2 => (intro w hSw; (try dsimp only at hSw); go_simp; try with_reducible rfl)
      try simp only [Act.put, List.setIfInBounds_toArray, List.set_cons_zero, List.set_cons_succ]
      refine take_yes (i := 2) (oi := ?o3) (d := (some 15)) (v := ?v3) ?hi3 (by kernel_rfl) (by kernel_rfl) (by kernel_rfl) (fun _ _ _ h => h) ?hd3 ?hw3 ?hy3 (by assumption) ?_
      case hi3 => (simp only [List.getElem?_toArray, List.getElem?_cons_zero, List.getElem?_cons_succ]; exact rfl)
      case hd3 => rfl
      case hw3 => rfl
      case hy3 => (intro w hSw; (try dsimp only at hSw); go_simp; try with_reducible rfl)
      try simp only [Act.put, List.setIfInBounds_toArray, List.set_cons_zero, List.set_cons_succ]
      refine take_yes (i := 3) (oi := ?o4) (d := (some 16)) (v := ?v4) ?hi4 (by kernel_rfl) (by kernel_rfl) (by kernel_rfl) (fun _ _ _ h => h) ?hd4 ?hw4 ?hy4 (by assumption) ?_
      case hi4 => (simp only [List.getElem?_toArray, List.getElem?_cons_zero, List.getElem?_cons_succ]; exact rfl)
      case hd4 => rfl
      case hw4 => rfl
      case hy4 => (intro w hSw; (try dsimp only at hSw); go_simp; try with_reducible rfl)
      try simp only [Act.put, List.setIfInBounds_toArray, List.set_cons_zero, List.set_cons_succ]
      refine take_yes (i := 4) (oi := ?o5) (d := (some 17)) (v := ?v5) ?hi5 (by kernel_rfl) (by kernel_rfl) (by kernel_rfl) (fun _ _ _ h => h) ?hd5 ?hw5 ?hy5 (by assumption) ?_
      case hi5 => (simp only [List.getElem?_toArray, List.getElem?_cons_zero, List.getElem?_cons_succ]; exact rfl)
      case hd5 => rfl
      case hw5 => rfl
      case hy5 => (intro w hSw; (try dsimp only at hSw); go_simp; try with_reducible rfl)
      try simp only [Act.put, List.setIfInBounds_toArray, List.set_cons_zero, List.set_cons_succ]
      refine take_yes (i := 5) (oi := ?o6) (d := (some 18)) (v := ?v6) ?hi6 (by kernel_rfl) (by kernel_rfl) (by kernel_rfl) (fun _ _ _ h => h) ?hd6 ?hw6 ?hy6 (by assumption) ?_
      case hi6 => (simp only [List.getElem?_toArray, List.getElem?_cons_zero, List.getElem?_cons_succ]; exact rfl)
      case hd6 => rfl
      case hw6 => rfl
      case hy6 => (intro w hSw; (try dsimp only at hSw); go_simp; try with_reducible rfl)
      try simp only [Act.put, List.setIfInBounds_toArray, List.set_cons_zero, List.set_cons_succ]
      refine take_yes (i := 6) (oi := ?o7) (d := (some 19)) (v := ?v7) ?hi7 (by kernel_rfl) (by kernel_rfl) (by kernel_rfl) (fun _ _ _ h => h) ?hd7 ?hw7 ?hy7 (by assumption) ?_
      case hi7 => (simp only [List.getElem?_toArray, List.getElem?_cons_zero, List.getElem?_cons_succ]; exact rfl)
      case hd7 => rfl
      case hw7 => rfl
      case hy7 => (intro w hSw; (try dsimp only at hSw); go_simp; try with_reducible rfl)
      try simp only [Act.put, List.setIfInBounds_toArray, List.set_cons_zero, List.set_cons_succ]
      refine take_yes (i := 7) (oi := ?o8) (d := (some 20)) (v := ?v8) ?hi8 (by kernel_rfl) (by kernel_rfl) (by kernel_rfl) (fun _ _ _ h => h) ?hd8 ?hw8 ?hy8 (by assumption) ?_
      case hi8 => (simp only [List.getElem?_toArray, List.getElem?_cons_zero, List.getElem?_cons_succ]; exact rfl)
      case hd8 => rfl
      case hw8 => rfl
      case hy8 => (intro w hSw; (try dsimp only at hSw); go_simp; try with_reducible rfl)
      try simp only [Act.put, List.setIfInBounds_toArray, List.set_cons_zero, List.set_cons_succ]
      refine take_yes (i := 8) (oi := ?o9) (d := (some 21)) (v := ?v9) ?hi9 (by kernel_rfl) (by kernel_rfl) (by kernel_rfl) (fun _ _ _ h => h) ?hd9 ?hw9 ?hy9 (by assumption) ?_
      case hi9 => (simp only [List.getElem?_toArray, List.getElem?_cons_zero, List.getElem?_cons_succ]; exact rfl)
      case hd9 => rfl
      case hw9 => rfl
      case hy9 => (intro w hSw; (try dsimp only at hSw); go_simp; try with_reducible rfl)
      try simp only [Act.put, List.setIfInBounds_toArray, List.set_cons_zero, List.set_cons_succ]
      refine take_yes (i := 9) (oi := ?o10) (d := (some 22)) (v := ?v10) ?hi10 (by kernel_rfl) (by kernel_rfl) (by kernel_rfl) (fun _ _ _ h => h) ?hd10 ?hw10 ?hy10 (by assumption) ?_
      case hi10 => (simp only [List.getElem?_toArray, List.getElem?_cons_zero, List.getElem?_cons_succ]; exact rfl)
      case hd10 => rfl
      case hw10 => rfl
      case hy10 => (intro w hSw; (try dsimp only at hSw); go_simp; try with_reducible rfl)
      try simp only [Act.put, List.setIfInBounds_toArray, List.set_cons_zero, List.set_cons_succ]
      refine take_yes (i := 10) (oi := ?o11) (d := (some 23)) (v := ?v11) ?hi11 (by kernel_rfl) (by kernel_rfl) (by kernel_rfl) (fun _ _ _ h => h) ?hd11 ?hw11 ?hy11 (by assumption) ?_
      case hi11 => (simp only [List.getElem?_toArray, List.getElem?_cons_zero, List.getElem?_cons_succ]; exact rfl)
      case hd11 => rfl
      case hw11 => rfl
      case hy11 => (intro w hSw; (try dsimp only at hSw); go_simp; try with_reducible rfl)
      try simp only [Act.put, List.setIfInBounds_toArray, List.set_cons_zero, List.set_cons_succ]
      refine take_yes (i := 11) (oi := ?o12) (d := (some 24)) (v := ?v12) ?hi12 (by kernel_rfl) (by kernel_rfl) (by kernel_rfl) (fun _ _ _ h => h) ?hd12 ?hw12 ?hy12 (by assumption) ?_
      case hi12 => (simp only [List.getElem?_toArray, List.getElem?_cons_zero, List.getElem?_cons_succ]; exact rfl)
      case hd12 => rfl
      case hw12 => rfl
      case hy12 => (intro w hSw; (try dsimp only at hSw); go_simp; try with_reducible rfl)
      try simp only [Act.put, List.setIfInBounds_toArray, List.set_cons_zero, List.set_cons_succ]
      refine take_yes (i := 12) (oi := ?o13) (d := (some 25)) (v := ?v13) ?hi13 (by kernel_rfl) (by kernel_rfl) (by kernel_rfl) (fun _ _ _ h => h) ?hd13 ?hw13 ?hy13 (by assumption) ?_
      case hi13 => (simp only [List.getElem?_toArray, List.getElem?_cons_zero, List.getElem?_cons_succ]; exact rfl)
      case hd13 => rfl
      case hw13 => rfl
      case hy13 => (intro w hSw; (try dsimp only at hSw); go_simp; try with_reducible rfl)
      try simp only [Act.put, List.setIfInBounds_toArray, List.set_cons_zero, List.set_cons_succ]
      refine take_yes (i := 13) (oi := ?o14) (d := (some 7)) (v := ?v14) ?hi14 (by kernel_rfl) (by kernel_rfl) (by kernel_rfl) (fun _ _ _ h => h) ?hd14 ?hw14 ?hy14 (by assumption) ?_
      case hi14 => (simp only [List.getElem?_toArray, List.getElem?_cons_zero, List.getElem?_cons_succ]; exact rfl)
      case hd14 => rfl
      case hw14 => rfl
      case hy14 => (intro w hSw; (try dsimp only at hSw); go_simp; try with_reducible rfl)
      try simp only [Act.put, List.setIfInBounds_toArray, List.set_cons_zero, List.set_cons_succ]
      refine wpAnyH_done (by kernel_rfl) ?_ _
      obtain ⟨k, hk⟩ : ∃ k, kx + 256 * ky = k := ⟨_, rfl⟩
      have hkw : IntKind.i64.wrap (IntKind.i64.wrap (kx : Int) + IntKind.i64.wrap (256 * IntKind.i64.wrap (ky : Int))) = (k : Int) := by
        have e1 : IntKind.i64.wrap (ky : Int) = (ky : Int) := by rw [IntKind.wrap_i64]; omega
        have e2 : IntKind.i64.wrap (kx : Int) = (kx : Int) := by rw [IntKind.wrap_i64]; omega
        have e3 : IntKind.i64.wrap (256 * (ky : Int)) = 256 * (ky : Int) := by rw [IntKind.wrap_i64]; omega
        rw [e1, e2, e3, IntKind.wrap_i64]; omega
      rw [hkw]
      rw [hk] at HV
      have hk6 : k < 65536 := by omega
      have HRB := Lib.hid (show r.drop 2 = b.drop (n + 2) by rw [← HR.out, List.drop_drop])
      have hr2 : 2 ≤ r.length := by omega
      have HB1 := Lib.hid (ext_drew (Below.refl wr.heap.size wr))
      have HO1 := Lib.hid (HO.out.keep HB1.out)
      have HBW := Lib.hid (ext_trans HBL.out HB1.out)
      obtain ⟨w1, hw1⟩ : ∃ w1, wr.drew = w1 := ⟨_, rfl⟩
      rw [hw1] at HB1 HO1 HBW ⊢
      have HBB := Lib.hid (HB.out.keep HBW.out)
      clear hHeld y1 y2 hw1 hkw hk hn1 hn2 hn4 hwn HO HBL
      by_cases h64 : k ≤ 64
      · have k1 : ¬ (64 : Int) < (k : Int) := by omega
        by_cases hm : n + 2 + k ≤ b.length
        · have hm' : ¬ (b.length : Int) < (n : Int) + 2 + (k : Int) := by omega
          obtain ⟨A3, hsl, hBs⟩ := bs_part HBB.out (okA_some g off) (n := b.length) (c := c) (lo := n + 2) (hi := n + 2 + k) rfl (by omega) hm hc
          obtain ⟨x, hx⟩ : ∃ x, (b.drop (n + 2)).take (n + 2 + k - (n + 2)) = x := ⟨_, rfl⟩
          rw [hx] at hBs
          have hxl : x.length = k := by rw [← hx, List.length_take, List.length_drop]; omega
          have HXL := Lib.hid hxl
          have HXE := Lib.hid (show (r.drop 2).take k = x by rw [HRB.out, ← hx]; congr 1; omega)
          have hsl' : ∀ W : World, (Instr.slice 22 (.slice (some ⟨g, off, none⟩) b.length c) (some (.int .i64 ((n : Int) + 2))) (some (.int .i64 ((n : Int) + 2 + (k : Int)))) none).run Tryz.prog W = .ok (.slice A3 x.length (c - (n + 2))) W := fun W => by
            have := hsl W
            rw [show n + 2 + k - (n + 2) = x.length by omega] at this
            simpa using this
          obtain ⟨gb, hgb⟩ : ∃ gb, w1.heap.size = gb := ⟨_, rfl⟩
          obtain ⟨w2, hw2⟩ : ∃ w2, w1.alloc (.cells #[] 5) = w2 := ⟨_, rfl⟩
          have ha2 : Arr w2 gb 5 #[] := by rw [← hw2, ← hgb]; exact Arr.fresh w1 _ _
          have HBUF := Lib.hid (show Buf w2 (some ⟨gb, 0, none⟩) 0 [] (fun k => k = gb) from ⟨.inr ⟨gb, 0, #[], rfl, ha2, by simp, by simp, fun j u hj => by simp [bytesV] at hj, rfl⟩⟩)
          have HB2 := Lib.hid (show Below w1.heap.size w1 w2 by rw [← hw2]; exact ext_alloc (Below.refl _ _) _)
          have HBS2 := Lib.hid (hBs.keep HB2.out)
          have HGB := Lib.hid hgb
          clear ha2 hBs hsl hx hxl
          go_wp2_with (first | (at_builtin; refine wp_buf _ rfl (.tmp 40) (.tmp 48) rfl HBUF.out rfl rfl rfl rfl HBS2.out (by have := HXL.out; simp; omega) ?_; intro A4 c4 w4 hb4 ht4; have HB4 := Lib.hid (show Buf w4 A4 c4 x _ from hb4); have HT4 := Lib.hid (Tch.fresh ht4 HB2.out (fun j hj => by have := HGB.out; omega)); have HO4 := Lib.hid ((HO1.out.keep HT4.out).keep (ext_alloc (Below.refl _ w4) (.cells #[.slice A4 x.length c4] 22))); clear hb4 ht4) | (refine wpList_append_elem _ rfl (.tmp 39) (.tmp 50) 24 rfl 22 j0 (.slice none 0 0) 1 24 Tryz.underlying24 hj hz0 hz1 hz2 rfl (by decide) u5 L.length _ rfl HO4.out.row ⟨w4.heap.size, 0, none⟩ 1 [.slice A4 x.length c4] rfl rfl (news_any w4 _ _) (by intro u hu; simp at hu; subst hu; rfl) (by unfold maxLen; omega) (by omega) ?_; intro ga ca w8 hr8 hg8; have HN8 := Lib.hid (show RowIn _ w8 _ _ _ _ _ ∧ (w4.alloc (.cells #[.slice A4 x.length c4] 22)).grownBy w8 u5.ownBlock from ⟨hr8, hg8⟩); clear hr8 hg8))
          go_roundw
          case rel =>
            have hb4 := ext_alloc (Below.refl _ w4) (.cells #[.slice A4 x.length c4] 22)
            have hs := (HO1.out.keep HT4.out).snoc hb4 (buf_keep HB4.out fun g cs ha => hb4.block g ha.lt) HN8.out.1 HN8.out.2
            have hL1 : (L ++ [x]).length = L.length + 1 := by simp
            have hown : ∀ j, u5.ownBlock = some j → w.heap.size ≤ j := HNW.out
            have hga := HN8.out.1.block ga rfl
            have hz4 := (ext_trans HBW.out (ext_trans HT4.out hb4)).size
            have h5 := cutP_piece hr2 (by rw [HV.out]; exact h64) (by rw [HV.out, List.length_drop]; omega)
            rw [HV.out, HXE.out, HRB.out] at h5
            refine ⟨L ++ [x], _, _, n + 2 + k, by simp, hs, fun j hj => ?_, ?_, by omega, by rw [hL1]; omega, ?_⟩
            · have hj' : ga = j := by simpa [Value.ownBlock] using hj
              subst hj'
              rcases hga with h | h
              · exact hown _ h
              · omega
            · exact ((ext_trans HBW.out (ext_trans HT4.out hb4)).grown HN8.out.2 (ext_trans HBW.out (ext_trans HT4.out hb4)).size hown)
            · rw [HC.out, h5, List.drop_drop, show n + 2 + k = n + (2 + k) by omega]
              simp [Nat.add_assoc]
          case measure => simp [intOf]; omega
        · have hm' : (b.length : Int) < (n : Int) + 2 + (k : Int) := by omega
          have HF := Lib.hid (show Cut0Out b w (.returned (.tuple #[u5, .int .i64 (n : Int), .int .i64 0])) w1 from ⟨u5, by rw [HC.out, cutP_part hr2 (by rw [HV.out]; omega) (by rw [HV.out, List.length_drop]; omega)]; simp, by rw [HC.out, cutP_part hr2 (by rw [HV.out]; omega) (by rw [HV.out, List.length_drop]; omega)]; simpa using HO1.out.rws, HBW.out⟩)
          go_wp2_with fail
          refine bodyPost_ret (results_tmp3 rfl _ _) rfl ?_
          exact HF.out
      · have k1 : (64 : Int) < (k : Int) := by omega
        have HF := Lib.hid (show Cut0Out b w (.returned (.tuple #[u5, .int .i64 (n : Int), .int .i64 3])) w1 from ⟨u5, by rw [HC.out, cutP_long hr2 (by rw [HV.out]; omega)]; simp, by rw [HC.out, cutP_long hr2 (by rw [HV.out]; omega)]; simpa using HO1.out.rws, HBW.out⟩)
        go_wp2_with fail
        refine bodyPost_ret (results_tmp3 rfl _ _) rfl ?_
        exact HF.out
    · have hn3 : ¬ (n : Int) + 2 ≤ (b.length : Int) := by omega
      have HF := Lib.hid (show Cut0Out b w (.returned (.tuple #[u5, .int .i64 (n : Int), .int .i64 0])) wr from ⟨u5, by rw [HC.out, cutP_end (by omega)]; simp, by rw [HC.out, cutP_end (by omega)]; simpa using HO.out.rws, HBL.out⟩)
      go_wp2_with fail
      refine bodyPost_ret (results_tmp3 rfl _ _) rfl ?_
      exact HF.out

end Go.Proofs.YtkmpchffflemcaaGreatDoor.En
end
