/- The kit's lent lists of lines and of bookings: marks, lent. -/
import Derived.Test.YtpoijhjjbmaedaaGreatDoorManB
import Derived.Test.YtpoijhjjbmaedaaGreatDoorCabC
import Derived.OwnWalk
import Derived.Laws.AppendOwnNone
set_option linter.unusedVariables false
set_option linter.unusedSimpArgs false
namespace Go.Proofs.YtpoijhjjbmaedaaGreatDoor.Man
open Go.RowKit

def byteOf (n : Nat) : UInt8 := UInt8.ofNat n
theorem byteOf_val (n : Nat) : (((byteOf n).toNat : Nat) : Int) = (n : Int) % 256 := by
  unfold byteOf; rw [UInt8.toNat_ofNat']; omega
def mkL (k i : Nat) : List UInt8 := [35, byteOf k, byteOf (k / 256), byteOf (k / 65536), 47, byteOf i, byteOf (i / 256), byteOf (i / 65536)]
def mkT (k i : Nat) : ByteArray := ⟨(mkL k i).toArray⟩
def mkLn (k i : Nat) : Ln := ⟨mkT k i, ⟨#[]⟩, false⟩
def mkV (k i : Nat) : Int := 1000003 * ((k : Int) + 7) + (i : Int)
def mkRaw (k i : Nat) : Bk.Raw := ⟨0, 0, mkV k i⟩
theorem raw_one (x : Bk.Raw) : ∀ u ∈ Bk.rawL x, u.oneCell' = true := by
  intro u hu
  simp only [Bk.rawL, List.mem_cons, List.mem_nil_iff, or_false] at hu
  rcases hu with rfl | rfl | rfl <;> rfl
def r0 : Bk.Raw := ⟨0, 0, 0⟩
def rowR (l : List Bk.Raw) (i : Nat) : List Value := Bk.rawL (l.getD i r0)
theorem rowR_len (l : List Bk.Raw) (i : Nat) : (rowR l i).length = 3 := rfl
theorem rowR_snoc (l : List Bk.Raw) (x : Bk.Raw) : setL (rowR l) l.length (Bk.rawL x) = rowR (l ++ [x]) := by
  funext i
  unfold setL rowR
  split
  · subst_vars; simp [List.getD_eq_getElem?_getD]
  · rcases Nat.lt_or_ge i l.length with h | h
    · rw [List.getD_eq_getElem?_getD, List.getD_eq_getElem?_getD, List.getElem?_append_left h]
    · rw [List.getD_eq_getElem?_getD, List.getD_eq_getElem?_getD, List.getElem?_eq_none (by omega), List.getElem?_eq_none (by rw [List.length_append]; simp; omega)]

-- gangwaykit.mark
set_option maxRecDepth 100000 in
set_option maxHeartbeats 2000000 in
theorem Mark_in (k i : Nat) (hk : k ≤ 1000000) (hi : i ≤ 100000000000000) (w : World) :
    Calls Tryz.prog 84 #[.int .i64 (k : Int), .int .i64 (i : Int)] w fun e w' => e = .returned (.int .i64 (mkV k i)) ∧ w' = w := by
  unfold mkV
  go_enter Tryz.func84, Tryz.ntmps84
  go_wp2_with fail
  go_ret
  exact ⟨rfl, rfl⟩

-- gangwaykit.markText
theorem shr_int (n : Nat) (k : Nat) : (Int.shiftRight (n : Int) k) = ((n / 2 ^ k : Nat) : Int) := by
  show ((n >>> k : Nat) : Int) = _
  rw [Nat.shiftRight_eq_div_pow]
set_option maxRecDepth 100000 in
set_option maxHeartbeats 2000000 in
theorem MarkText (k i : Nat) (hk : k < 256) (hi : i < 16777216) (w : World) :
    Calls Tryz.prog 93 #[.int .i64 (k : Int), .int .i64 (i : Int)] w fun e w' => e = .returned (.string (mkT k i)) ∧ Below w.heap.size w w' := by
  go_enter Tryz.func93, Tryz.ntmps93
  go_wp2_with fail
  refine Cab.upon_text (mkL k i) Tryz.underlying96 Tryz.underlying5 Tryz.underlying9 (fun j hj => ?_) ?_
  · have hj8 : j < 8 := hj
    rw [add_zero_off]
    refine ((Arr.fresh w _ _).cell j).trans ?_
    have key : ∀ (x : Int) (n : Nat), x = (n : Int) % 256 → (some (Value.int .u8 x) : Option Value) = some (.int .u8 (((byteOf n).toNat : Nat) : Int)) := fun x n hx => by rw [byteOf_val, hx]
    match j, hj8 with
    | 0, _ => rfl
    | 1, _ => exact key _ k (by omega)
    | 2, _ => exact key _ (k / 256) (by omega)
    | 3, _ => exact key _ (k / 65536) (by omega)
    | 4, _ => rfl
    | 5, _ => exact key _ i (by omega)
    | 6, _ => exact key _ (i / 256) (by omega)
    | 7, _ => exact key _ (i / 65536) (by omega)
  go_wp2_with fail
  go_ret
  exact ⟨rfl, by repeat (first | with_reducible exact Below.refl _ _ | with_reducible refine ext_alloc ?_ _ | with_reducible refine ext_drew ?_ | with_reducible refine ext_drewN ?_ _ | (refine ext_setCell ?_ (by simp at *; omega) _) | with_reducible refine ext_trans ?_ (by assumption))⟩

-- gangwaykit.markLine
set_option maxRecDepth 100000 in
set_option maxHeartbeats 2000000 in
theorem MarkLine (k i : Nat) (hk : k < 256) (hi : i < 16777216) (w : World) :
    Calls Tryz.prog 54 #[.int .i64 (k : Int), .int .i64 (i : Int)] w fun e w' => e = .returned (.agg #[.string (mkT k i), .string ⟨#[]⟩, .bool false]) ∧ Below w.heap.size w w' := by
  have HMT := Lib.hid (fun W => MarkText k i hk hi W)
  clear hk hi
  obtain ⟨T, hT⟩ : ∃ T, mkT k i = T := ⟨_, rfl⟩
  rw [hT] at HMT ⊢
  clear hT
  have hb0 := ext_alloc (Below.refl w.heap.size w) (.cells #[.string ⟨#[]⟩, .string ⟨#[]⟩, .bool false] 74)
  have hA0 := Arr.fresh w 74 #[.string ⟨#[]⟩, .string ⟨#[]⟩, .bool false]
  have HB0 := Lib.hid hb0; have HA0 := Lib.hid hA0
  clear hb0 hA0
  go_enter Tryz.func54, Tryz.ntmps54
  go_wp2_with fail
  refine (HMT.out _).mono ?_
  rintro e w1 ⟨rfl, hb1⟩
  have hA1 := HA0.out.keep hb1
  have HB1 := Lib.hid (ext_trans HB0.out hb1)
  clear hb1
  go_wp2_with (refine wpList_store_blk rfl 74 _ _ rfl w.heap.size 74 _ #[.string T, .string ⟨#[]⟩, .bool false] hA1 rfl rfl rfl line_size (by simp [Value.oneCell']) ?_; intro wz hAz hgz hsz; have HAZ := Lib.hid hAz; have HGZ := Lib.hid hgz; clear hAz hgz hsz)
  refine bodyPost_ret (results_cell Tryz.results54 _ (by rfl) (run_load_blk 74 HAZ.out _ Tryz.underlying74 rfl line_size)) rfl ⟨rfl, ?_⟩
  exact ext_only HB1.out HGZ.out (Nat.le_refl _)

-- gangwaykit.markBooking
set_option maxRecDepth 100000 in
set_option maxHeartbeats 2000000 in
theorem MarkBooking (k i : Nat) (hk : k ≤ 1000000) (hi : i ≤ 100000000000000) (w : World) :
    Calls Tryz.prog 61 #[.int .i64 (k : Int), .int .i64 (i : Int)] w fun e w' => e = .returned (.agg #[.int .u32 0, .int .i64 0, .int .i64 (mkV k i)]) ∧ Below w.heap.size w w' := by
  have HMT := Lib.hid (fun W => Mark_in k i hk hi W)
  have hin : 0 ≤ mkV k i ∧ mkV k i < 4611686018427387904 := by unfold mkV; omega
  clear hk hi
  obtain ⟨T, hT⟩ : ∃ T, mkV k i = T := ⟨_, rfl⟩
  rw [hT] at HMT hin ⊢
  clear hT
  have hb0 := ext_alloc (Below.refl w.heap.size w) (.cells #[.int .u32 0, .int .i64 0, .int .i64 0] 78)
  have hA0 := Arr.fresh w 78 #[.int .u32 0, .int .i64 0, .int .i64 0]
  have HB0 := Lib.hid hb0; have HA0 := Lib.hid hA0
  clear hb0 hA0
  go_enter Tryz.func61, Tryz.ntmps61
  go_wp2_with fail
  refine (HMT.out _).mono ?_
  rintro e w1 ⟨rfl, hw1⟩
  subst hw1
  have hA1 := HA0.out
  go_wp2_with (refine wpList_store_blk rfl 78 _ _ rfl w.heap.size 78 _ #[.int .u32 0, .int .i64 0, .int .i64 T] hA1 rfl rfl rfl Bk.bkg_size (by simp [Value.oneCell']) ?_; intro wz hAz hgz hsz; have HAZ := Lib.hid hAz; have HGZ := Lib.hid hgz; clear hAz hgz hsz)
  refine bodyPost_ret (results_cell Tryz.results61 _ (by rfl) (run_load_blk 78 HAZ.out _ Tryz.underlying78 rfl Bk.bkg_size)) rfl ⟨rfl, ?_⟩
  exact ext_only HB0.out HGZ.out (Nat.le_refl _)

theorem flat_cells {c : Nat → List Value} {sz : Nat} (hc : ∀ i, (c i).length = sz) {n j : Nat} {u : Value} (h : (flat c n)[j]? = some u) : ∃ i r, i < n ∧ r < sz ∧ j = i * sz + r ∧ (c i)[r]? = some u := by
  have hj := (List.getElem?_eq_some_iff.1 h).1
  rw [flat_length hc] at hj
  have hsz : 0 < sz := by
    rcases Nat.eq_zero_or_pos sz with h0 | h0
    · subst h0; omega
    · exact h0
  have hkd : j / sz < n := (Nat.div_lt_iff_lt_mul hsz).2 hj
  have hkm : j % sz < sz := Nat.mod_lt _ hsz
  have hke : j / sz * sz + j % sz = j := by rw [Nat.mul_comm]; exact Nat.div_add_mod j sz
  refine ⟨j / sz, j % sz, hkd, hkm, hke.symm, ?_⟩
  rw [← flat_get hc hkd hkm, hke]; exact h
theorem flat_ones {c : Nat → List Value} {sz : Nat} (hc : ∀ i, (c i).length = sz) (h1 : ∀ i, ∀ u ∈ c i, u.oneCell' = true) (n : Nat) : ∀ u ∈ flat c n, u.oneCell' = true := fun u hu => by
  obtain ⟨j, hj⟩ := List.mem_iff_getElem?.1 hu
  obtain ⟨i, r, _, _, _, h⟩ := flat_cells hc hj
  exact h1 i u (List.mem_iff_getElem?.2 ⟨r, h⟩)
theorem own_cap {w : World} {n m g cap sz : Nat} {e : TypeId} {S : Nat → Prop} {c : Nat → List Value} (h : RowIn S w e sz (.slice (some ⟨g, 0, none⟩) m cap) n c) : ((n : Nat) : Int) ≤ (cap : Int) := by
  rcases h.own.2 with ⟨h0, _⟩ | ⟨g', cap', cur, hv, _, _, hnc, _⟩
  · cases h0
  · injection hv with _ _ hv; subst hv; omega

def lnMarks (n : Nat) : List Ln := (List.range n).map (mkLn 1)
def LentLnOut (l : List Ln) (w : World) (e : Ending) (w' : World) : Prop := ∃ g cap, e = .returned (.slice (some ⟨g, 0, none⟩) l.length cap) ∧ RowIn (fun k => w.heap.size ≤ k) w' 74 3 (.slice (some ⟨g, 0, none⟩) (l.length + 12) cap) (l.length + 12) (rowC (l ++ lnMarks 12)) ∧ Below w.heap.size w w'
theorem lines_read {w : World} {ad : Addr} {l : List Ln} (h : Lines w (some ad) l) : ∀ j u, (flat (rowC l) l.length)[j]? = some u → w.cell? (ad.add j) = some u := fun j u hu => by
  obtain ⟨i, r, hi, hr, rfl, hc⟩ := flat_cells (rowC_len l) hu
  obtain ⟨g, off, hA, _, hh⟩ := h (by intro e; subst e; simp at hi)
  obtain rfl := Option.some.inj hA
  have := hh i hi r u hc
  rw [← this]
  congr 1
  unfold Addr.add; split
  · rename_i h0; simp only [Addr.mk.injEq, and_true, true_and]; omega
  · simp only [Addr.mk.injEq, and_true, true_and]; omega
-- gangwaykit.LentLines, no list
set_option maxRecDepth 100000 in
set_option maxHeartbeats 2000000 in
theorem LentLines_none (l : List Ln) (hl : l = []) (w : World) :
    Calls Tryz.prog 19 #[.slice none 0 0] w (LentLnOut l w) := by
  obtain ⟨i0, hi, hz0, hz1, hz2⟩ := info_parts line_info
  obtain ⟨L, hL⟩ : ∃ L, l.length = L := ⟨_, rfl⟩
  have hl0 : L = 0 := by rw [← hL, hl]; rfl
  have hlen : L * 40 ≤ 140737488351232 := by omega
  have HL0 := Lib.hid hl0
  have HL := Lib.hid hL
  have HZ := Lib.hid hl
  clear hl hL hl0
  go_enter Tryz.func19, Tryz.ntmps19
  go_wp2_with (first | (refine wpList_make_own _ rfl _ _ 39 rfl w.heap.size 74 i0 (.agg #[.string ⟨#[]⟩, .string ⟨#[]⟩, .bool false]) 3 Tryz.underlying39 hi hz0 hz1 .i64 .i64 _ (L + 12) rfl rfl (by have := HL0.out; omega) (by rw [hz2]; omega) (by unfold maxLen; omega) (Nat.le_refl _) ?_; intro w1 hown0 hg0; have HO0 := Lib.hid hown0; have HG0 := Lib.hid (Below.grown (Below.refl w.heap.size w) hg0 (Nat.le_refl _) (by simp)); have hz0' := hg0.size; clear hown0 hg0) | (at_builtin; refine wpList_append_own_none rfl (.tmp 9) (.tmp 10) 39 rfl w.heap.size 74 i0 3 Tryz.underlying39 hi hz1 _ 0 [] rfl HO0.out rfl ?_))
  have hr1 : RowIn (fun j => w.heap.size ≤ j) w1 74 3 (.slice (some ⟨w.heap.size, 0, none⟩) L (L + 12)) L (rowC l) := by
    have := HO0.out
    rw [HL0.out, HZ.out]
    rw [HL0.out] at this
    exact ⟨own_base_le this (Nat.zero_le _), fun g hg => (own_lt this hg).2⟩
  have HR1 := Lib.hid hr1
  have HB1 := HG0
  clear hr1
  go_loopw [3, 4] (fun v i wr => ∃ (k g cap : Nat), k ≤ 12 ∧ i = .int .i64 k ∧ v = .slice (some ⟨g, 0, none⟩) (L + k) cap ∧ RowIn (fun j => w.heap.size ≤ j) wr 74 3 (.slice (some ⟨g, 0, none⟩) (L + k) cap) (L + k) (rowC (l ++ lnMarks k)) ∧ Below w.heap.size w wr) (fun _ i _ => (12 - intOf i).toNat)
  case atStart => exact ⟨0, w.heap.size, L + 12, by omega, rfl, by rw [HL0.out], by simpa [lnMarks] using HR1.out, HB1.out⟩
  case round =>
    obtain ⟨k, g, cap, hk, rfl, rfl, hR, hb⟩ := hrel
    have HR := Lib.hid hR
    have HB := Lib.hid hb
    have hz := hb.size
    clear hR hb
    by_cases h : k < 12
    · have HMK := Lib.hid (fun W => MarkLine 1 k (by omega) (by omega) W)
      obtain ⟨X, hX⟩ : ∃ X, mkT 1 k = X := ⟨_, rfl⟩
      rw [hX] at HMK
      go_wp2_with fail
      refine (HMK.out _).mono ?_
      rintro e w4 ⟨rfl, hb4⟩
      have hb5 := ext_alloc hb4 (.cells #[.string X, .string ⟨#[]⟩, .bool false] 74)
      have HB5 := Lib.hid (ext_trans HB.out hb5)
      have HR5 := Lib.hid (HR.out.keep hb5)
      have HNW := Lib.hid (news_any w4 [.string X, .string ⟨#[]⟩, .bool false] 74)
      clear hb4 hb5
      go_wp2_with (at_builtin; refine wpList_append_elem _ rfl (.tmp 16) (.tmp 19) 39 rfl 74 i0 (.agg #[.string ⟨#[]⟩, .string ⟨#[]⟩, .bool false]) 3 40 Tryz.underlying39 hi hz0 hz1 hz2 rfl (by decide) (.slice (some ⟨g, 0, none⟩) (L + k) cap) (L + k) (rowC (l ++ lnMarks k)) rfl HR5.out ⟨w4.heap.size, 0, none⟩ 1 [.string X, .string ⟨#[]⟩, .bool false] rfl rfl HNW.out (by simp [Value.oneCell']) (by unfold maxLen; omega) (by omega) ?_; intro g2 cap2 w6 hr6 hg6; have HR6 := Lib.hid hr6; have HG6 := Lib.hid hg6; clear hr6 hg6)
      go_roundw
      case rel =>
        have hrs : setL (rowC (l ++ lnMarks k)) (L + k) [.string X, .string ⟨#[]⟩, .bool false] = rowC (l ++ lnMarks (k + 1)) := by
          have h9 := rowC_snoc (l ++ lnMarks k) (mkLn 1 k)
          rw [List.length_append, HL.out, show (lnMarks k).length = k by simp [lnMarks]] at h9
          rw [← hX, show lnMarks (k + 1) = lnMarks k ++ [mkLn 1 k] by simp [lnMarks, List.range_succ], ← List.append_assoc, ← h9]
          rfl
        have hr6 := HR6.out
        rw [hrs] at hr6
        have hz5 := HB5.out.size
        refine ⟨k + 1, g2, cap2, by omega, by go_num, rfl, hr6.mono (fun j hj _ => ?_), HB5.out.grown HG6.out hz5 (fun j hj => HR5.out.block j hj)⟩
        rcases hj with hj | hj
        · exact hj
        · rw [hj]; exact hz5
      case measure => simp [intOf]; omega
    · obtain rfl : k = 12 := by omega
      have hcap := own_cap HR.out
      have hcap2 : ((L : Nat) : Int) ≤ (cap : Int) := by omega
      go_wp2_with fail
      go_ret
      exact ⟨g, cap, by rw [HL.out, HL0.out]; rfl, by rw [HL.out]; exact HR.out, HB.out⟩

-- gangwaykit.LentLines
set_option maxRecDepth 100000 in
set_option maxHeartbeats 2000000 in
theorem LentLines_some (l : List Ln) (ad : Addr) (c : Nat) (w : World) (hI : Lines w (some ad) l) (hlen : l.length * 40 ≤ 140737488351232) :
    Calls Tryz.prog 19 #[.slice (some ad) l.length c] w (LentLnOut l w) := by
  obtain ⟨i0, hi, hz0, hz1, hz2⟩ := info_parts line_info
  obtain ⟨L, hL⟩ : ∃ L, l.length = L := ⟨_, rfl⟩
  have HII := Lib.hid hI
  rw [hL] at hlen ⊢
  have HL := Lib.hid hL
  clear hI hL
  go_enter Tryz.func19, Tryz.ntmps19
  go_wp2_with (first | (refine wpList_make_own _ rfl _ _ 39 rfl w.heap.size 74 i0 (.agg #[.string ⟨#[]⟩, .string ⟨#[]⟩, .bool false]) 3 Tryz.underlying39 hi hz0 hz1 .i64 .i64 _ (L + 12) rfl rfl (by simp) (by rw [hz2]; omega) (by unfold maxLen; omega) (Nat.le_refl _) ?_; intro w1 hown0 hg0; have HO0 := Lib.hid hown0; have HG0 := Lib.hid (Below.grown (Below.refl w.heap.size w) hg0 (Nat.le_refl _) (by simp)); have hz0' := hg0.size; clear hown0 hg0) | (at_builtin; refine wpList_append_own _ rfl (.tmp 9) (.tmp 10) 39 rfl w.heap.size 74 i0 (.agg #[.string ⟨#[]⟩, .string ⟨#[]⟩, .bool false]) 3 40 Tryz.underlying39 hi hz0 hz1 hz2 rfl (by decide) (.slice (some ⟨w.heap.size, 0, none⟩) 0 (L + 12)) 0 [] rfl HO0.out ad L c (flat (rowC l) L) rfl (by rw [flat_length (rowC_len l)]) (by have := lines_read (HII.out.keep HG0.out); rw [HL.out] at this; exact this) (flat_ones (rowC_len l) (fun i => lineL_one _) L) (by unfold maxLen; omega) (by omega) (by omega) ?_; intro v2 w2 hown2 hg2 hnil2; have HW2 := Lib.hid hown2; have HB2 := Lib.hid (ext_app HG0.out HO0.out hg2 (Nat.le_refl _)); clear hown2 hg2))
  rw [Nat.zero_add, List.nil_append] at HW2
  obtain ⟨g2, cap2, rfl⟩ := own_forms HW2.out (fun e => by have := (hnil2.1 e).1; simp at this)
  have hr1 : RowIn (fun j => w.heap.size ≤ j) w2 74 3 (.slice (some ⟨g2, 0, none⟩) L cap2) L (rowC l) :=
    ⟨own_base_le HW2.out (Nat.zero_le _), fun g hg => (own_lt HW2.out hg).2⟩
  have HR1 := Lib.hid hr1
  have HB1 := HB2
  clear hr1 hnil2 HW2
  go_loopw [3, 4] (fun v i wr => ∃ (k g cap : Nat), k ≤ 12 ∧ i = .int .i64 k ∧ v = .slice (some ⟨g, 0, none⟩) (L + k) cap ∧ RowIn (fun j => w.heap.size ≤ j) wr 74 3 (.slice (some ⟨g, 0, none⟩) (L + k) cap) (L + k) (rowC (l ++ lnMarks k)) ∧ Below w.heap.size w wr) (fun _ i _ => (12 - intOf i).toNat)
  case atStart => exact ⟨0, _, _, by omega, rfl, rfl, by simpa [lnMarks] using HR1.out, HB1.out⟩
  case round =>
    obtain ⟨k, g, cap, hk, rfl, rfl, hR, hb⟩ := hrel
    have HR := Lib.hid hR
    have HB := Lib.hid hb
    have hz := hb.size
    clear hR hb
    by_cases h : k < 12
    · have HMK := Lib.hid (fun W => MarkLine 1 k (by omega) (by omega) W)
      obtain ⟨X, hX⟩ : ∃ X, mkT 1 k = X := ⟨_, rfl⟩
      rw [hX] at HMK
      go_wp2_with fail
      refine (HMK.out _).mono ?_
      rintro e w4 ⟨rfl, hb4⟩
      have hb5 := ext_alloc hb4 (.cells #[.string X, .string ⟨#[]⟩, .bool false] 74)
      have HB5 := Lib.hid (ext_trans HB.out hb5)
      have HR5 := Lib.hid (HR.out.keep hb5)
      have HNW := Lib.hid (news_any w4 [.string X, .string ⟨#[]⟩, .bool false] 74)
      clear hb4 hb5
      go_wp2_with (at_builtin; refine wpList_append_elem _ rfl (.tmp 16) (.tmp 19) 39 rfl 74 i0 (.agg #[.string ⟨#[]⟩, .string ⟨#[]⟩, .bool false]) 3 40 Tryz.underlying39 hi hz0 hz1 hz2 rfl (by decide) (.slice (some ⟨g, 0, none⟩) (L + k) cap) (L + k) (rowC (l ++ lnMarks k)) rfl HR5.out ⟨w4.heap.size, 0, none⟩ 1 [.string X, .string ⟨#[]⟩, .bool false] rfl rfl HNW.out (by simp [Value.oneCell']) (by unfold maxLen; omega) (by omega) ?_; intro g2 cap2 w6 hr6 hg6; have HR6 := Lib.hid hr6; have HG6 := Lib.hid hg6; clear hr6 hg6)
      go_roundw
      case rel =>
        have hrs : setL (rowC (l ++ lnMarks k)) (L + k) [.string X, .string ⟨#[]⟩, .bool false] = rowC (l ++ lnMarks (k + 1)) := by
          have h9 := rowC_snoc (l ++ lnMarks k) (mkLn 1 k)
          rw [List.length_append, HL.out, show (lnMarks k).length = k by simp [lnMarks]] at h9
          rw [← hX, show lnMarks (k + 1) = lnMarks k ++ [mkLn 1 k] by simp [lnMarks, List.range_succ], ← List.append_assoc, ← h9]
          rfl
        have hr6 := HR6.out
        rw [hrs] at hr6
        have hz5 := HB5.out.size
        refine ⟨k + 1, g2, cap2, by omega, by go_num, rfl, hr6.mono (fun j hj _ => ?_), HB5.out.grown HG6.out hz5 (fun j hj => HR5.out.block j hj)⟩
        rcases hj with hj | hj
        · exact hj
        · rw [hj]; exact hz5
      case measure => simp [intOf]; omega
    · obtain rfl : k = 12 := by omega
      have hcap := own_cap HR.out
      have hcap2 : ((L : Nat) : Int) ≤ (cap : Int) := by omega
      go_wp2_with fail
      go_ret
      exact ⟨g, cap, by rw [HL.out]; rfl, by rw [HL.out]; exact HR.out, HB.out⟩
theorem LentLines_in (l : List Ln) (A : Option Addr) (c : Nat) (w : World) (hI : Lines w A l) (hA : A = none → l = [] ∧ c = 0) (hlen : l.length * 40 ≤ 140737488351232) :
    Calls Tryz.prog 19 #[.slice A l.length c] w (LentLnOut l w) := by
  cases A with
  | none =>
    obtain ⟨rfl, rfl⟩ := hA rfl
    exact LentLines_none [] rfl w
  | some ad => exact LentLines_some l ad c w hI hlen

def rwMarks (n : Nat) : List Bk.Raw := (List.range n).map (mkRaw 1)
def LentRwOut (l : List Bk.Raw) (w : World) (e : Ending) (w' : World) : Prop := ∃ g cap, e = .returned (.slice (some ⟨g, 0, none⟩) l.length cap) ∧ RowIn (fun k => w.heap.size ≤ k) w' 78 3 (.slice (some ⟨g, 0, none⟩) (l.length + 12) cap) (l.length + 12) (rowR (l ++ rwMarks 12)) ∧ Below w.heap.size w w'
theorem raws_read {w : World} {ad : Addr} {l : List Bk.Raw} (h : Bk.Raws w (some ad) l) : ∀ j u, (flat (rowR l) l.length)[j]? = some u → w.cell? (ad.add j) = some u := fun j u hu => by
  obtain ⟨i, r, hi, hr, rfl, hc⟩ := flat_cells (rowR_len l) hu
  obtain ⟨g, off, hA, _, hh⟩ := h (by intro e; subst e; simp at hi)
  obtain rfl := Option.some.inj hA
  have := hh i hi r u hc
  rw [← this]
  congr 1
  unfold Addr.add; split
  · rename_i h0; simp only [Addr.mk.injEq, and_true, true_and]; omega
  · simp only [Addr.mk.injEq, and_true, true_and]; omega
-- gangwaykit.LentBookings, no list
set_option maxRecDepth 100000 in
set_option maxHeartbeats 2000000 in
theorem LentBookings_none (l : List Bk.Raw) (hl : l = []) (w : World) :
    Calls Tryz.prog 25 #[.slice none 0 0] w (LentRwOut l w) := by
  obtain ⟨i0, hi, hz0, hz1, hz2⟩ := info_parts Bk.bkg_info
  obtain ⟨L, hL⟩ : ∃ L, l.length = L := ⟨_, rfl⟩
  have hl0 : L = 0 := by rw [← hL, hl]; rfl
  have hlen : L * 24 ≤ 140737488351232 := by omega
  have HL0 := Lib.hid hl0
  have HL := Lib.hid hL
  have HZ := Lib.hid hl
  clear hl hL hl0
  go_enter Tryz.func25, Tryz.ntmps25
  go_wp2_with (first | (refine wpList_make_own _ rfl _ _ 27 rfl w.heap.size 78 i0 (.agg #[.int .u32 0, .int .i64 0, .int .i64 0]) 3 Tryz.underlying27 hi hz0 hz1 .i64 .i64 _ (L + 12) rfl rfl (by have := HL0.out; omega) (by rw [hz2]; omega) (by unfold maxLen; omega) (Nat.le_refl _) ?_; intro w1 hown0 hg0; have HO0 := Lib.hid hown0; have HG0 := Lib.hid (Below.grown (Below.refl w.heap.size w) hg0 (Nat.le_refl _) (by simp)); have hz0' := hg0.size; clear hown0 hg0) | (at_builtin; refine wpList_append_own_none rfl (.tmp 9) (.tmp 10) 27 rfl w.heap.size 78 i0 3 Tryz.underlying27 hi hz1 _ 0 [] rfl HO0.out rfl ?_))
  have hr1 : RowIn (fun j => w.heap.size ≤ j) w1 78 3 (.slice (some ⟨w.heap.size, 0, none⟩) L (L + 12)) L (rowR l) := by
    have := HO0.out
    rw [HL0.out, HZ.out]
    rw [HL0.out] at this
    exact ⟨own_base_le this (Nat.zero_le _), fun g hg => (own_lt this hg).2⟩
  have HR1 := Lib.hid hr1
  have HB1 := HG0
  clear hr1
  go_loopw [3, 4] (fun v i wr => ∃ (k g cap : Nat), k ≤ 12 ∧ i = .int .i64 k ∧ v = .slice (some ⟨g, 0, none⟩) (L + k) cap ∧ RowIn (fun j => w.heap.size ≤ j) wr 78 3 (.slice (some ⟨g, 0, none⟩) (L + k) cap) (L + k) (rowR (l ++ rwMarks k)) ∧ Below w.heap.size w wr) (fun _ i _ => (12 - intOf i).toNat)
  case atStart => exact ⟨0, w.heap.size, L + 12, by omega, rfl, by rw [HL0.out], by simpa [rwMarks] using HR1.out, HB1.out⟩
  case round =>
    obtain ⟨k, g, cap, hk, rfl, rfl, hR, hb⟩ := hrel
    have HR := Lib.hid hR
    have HB := Lib.hid hb
    have hz := hb.size
    clear hR hb
    by_cases h : k < 12
    · have HMK := Lib.hid (fun W => MarkBooking 1 k (by omega) (by omega) W)
      obtain ⟨X, hX⟩ : ∃ X, mkV 1 k = X := ⟨_, rfl⟩
      rw [hX] at HMK
      go_wp2_with fail
      refine (HMK.out _).mono ?_
      rintro e w4 ⟨rfl, hb4⟩
      have hb5 := ext_alloc hb4 (.cells #[.int .u32 0, .int .i64 0, .int .i64 X] 78)
      have HB5 := Lib.hid (ext_trans HB.out hb5)
      have HR5 := Lib.hid (HR.out.keep hb5)
      have HNW := Lib.hid (news_any w4 [.int .u32 0, .int .i64 0, .int .i64 X] 78)
      clear hb4 hb5
      go_wp2_with (at_builtin; refine wpList_append_elem _ rfl (.tmp 16) (.tmp 19) 27 rfl 78 i0 (.agg #[.int .u32 0, .int .i64 0, .int .i64 0]) 3 24 Tryz.underlying27 hi hz0 hz1 hz2 rfl (by decide) (.slice (some ⟨g, 0, none⟩) (L + k) cap) (L + k) (rowR (l ++ rwMarks k)) rfl HR5.out ⟨w4.heap.size, 0, none⟩ 1 [.int .u32 0, .int .i64 0, .int .i64 X] rfl rfl HNW.out (by simp [Value.oneCell']) (by unfold maxLen; omega) (by omega) ?_; intro g2 cap2 w6 hr6 hg6; have HR6 := Lib.hid hr6; have HG6 := Lib.hid hg6; clear hr6 hg6)
      go_roundw
      case rel =>
        have hrs : setL (rowR (l ++ rwMarks k)) (L + k) [.int .u32 0, .int .i64 0, .int .i64 X] = rowR (l ++ rwMarks (k + 1)) := by
          have h9 := rowR_snoc (l ++ rwMarks k) (mkRaw 1 k)
          rw [List.length_append, HL.out, show (rwMarks k).length = k by simp [rwMarks]] at h9
          rw [← hX, show rwMarks (k + 1) = rwMarks k ++ [mkRaw 1 k] by simp [rwMarks, List.range_succ], ← List.append_assoc, ← h9]
          rfl
        have hr6 := HR6.out
        rw [hrs] at hr6
        have hz5 := HB5.out.size
        refine ⟨k + 1, g2, cap2, by omega, by go_num, rfl, hr6.mono (fun j hj _ => ?_), HB5.out.grown HG6.out hz5 (fun j hj => HR5.out.block j hj)⟩
        rcases hj with hj | hj
        · exact hj
        · rw [hj]; exact hz5
      case measure => simp [intOf]; omega
    · obtain rfl : k = 12 := by omega
      have hcap := own_cap HR.out
      have hcap2 : ((L : Nat) : Int) ≤ (cap : Int) := by omega
      go_wp2_with fail
      go_ret
      exact ⟨g, cap, by rw [HL.out, HL0.out]; rfl, by rw [HL.out]; exact HR.out, HB.out⟩

-- gangwaykit.LentBookings
set_option maxRecDepth 100000 in
set_option maxHeartbeats 2000000 in
theorem LentBookings_some (l : List Bk.Raw) (ad : Addr) (c : Nat) (w : World) (hI : Bk.Raws w (some ad) l) (hlen : l.length * 24 ≤ 140737488351232) :
    Calls Tryz.prog 25 #[.slice (some ad) l.length c] w (LentRwOut l w) := by
  obtain ⟨i0, hi, hz0, hz1, hz2⟩ := info_parts Bk.bkg_info
  obtain ⟨L, hL⟩ : ∃ L, l.length = L := ⟨_, rfl⟩
  have HII := Lib.hid hI
  rw [hL] at hlen ⊢
  have HL := Lib.hid hL
  clear hI hL
  go_enter Tryz.func25, Tryz.ntmps25
  go_wp2_with (first | (refine wpList_make_own _ rfl _ _ 27 rfl w.heap.size 78 i0 (.agg #[.int .u32 0, .int .i64 0, .int .i64 0]) 3 Tryz.underlying27 hi hz0 hz1 .i64 .i64 _ (L + 12) rfl rfl (by simp) (by rw [hz2]; omega) (by unfold maxLen; omega) (Nat.le_refl _) ?_; intro w1 hown0 hg0; have HO0 := Lib.hid hown0; have HG0 := Lib.hid (Below.grown (Below.refl w.heap.size w) hg0 (Nat.le_refl _) (by simp)); have hz0' := hg0.size; clear hown0 hg0) | (at_builtin; refine wpList_append_own _ rfl (.tmp 9) (.tmp 10) 27 rfl w.heap.size 78 i0 (.agg #[.int .u32 0, .int .i64 0, .int .i64 0]) 3 24 Tryz.underlying27 hi hz0 hz1 hz2 rfl (by decide) (.slice (some ⟨w.heap.size, 0, none⟩) 0 (L + 12)) 0 [] rfl HO0.out ad L c (flat (rowR l) L) rfl (by rw [flat_length (rowR_len l)]) (by have := raws_read (HII.out.keep HG0.out); rw [HL.out] at this; exact this) (flat_ones (rowR_len l) (fun i => raw_one _) L) (by unfold maxLen; omega) (by omega) (by omega) ?_; intro v2 w2 hown2 hg2 hnil2; have HW2 := Lib.hid hown2; have HB2 := Lib.hid (ext_app HG0.out HO0.out hg2 (Nat.le_refl _)); clear hown2 hg2))
  rw [Nat.zero_add, List.nil_append] at HW2
  obtain ⟨g2, cap2, rfl⟩ := own_forms HW2.out (fun e => by have := (hnil2.1 e).1; simp at this)
  have hr1 : RowIn (fun j => w.heap.size ≤ j) w2 78 3 (.slice (some ⟨g2, 0, none⟩) L cap2) L (rowR l) :=
    ⟨own_base_le HW2.out (Nat.zero_le _), fun g hg => (own_lt HW2.out hg).2⟩
  have HR1 := Lib.hid hr1
  have HB1 := HB2
  clear hr1 hnil2 HW2
  go_loopw [3, 4] (fun v i wr => ∃ (k g cap : Nat), k ≤ 12 ∧ i = .int .i64 k ∧ v = .slice (some ⟨g, 0, none⟩) (L + k) cap ∧ RowIn (fun j => w.heap.size ≤ j) wr 78 3 (.slice (some ⟨g, 0, none⟩) (L + k) cap) (L + k) (rowR (l ++ rwMarks k)) ∧ Below w.heap.size w wr) (fun _ i _ => (12 - intOf i).toNat)
  case atStart => exact ⟨0, _, _, by omega, rfl, rfl, by simpa [rwMarks] using HR1.out, HB1.out⟩
  case round =>
    obtain ⟨k, g, cap, hk, rfl, rfl, hR, hb⟩ := hrel
    have HR := Lib.hid hR
    have HB := Lib.hid hb
    have hz := hb.size
    clear hR hb
    by_cases h : k < 12
    · have HMK := Lib.hid (fun W => MarkBooking 1 k (by omega) (by omega) W)
      obtain ⟨X, hX⟩ : ∃ X, mkV 1 k = X := ⟨_, rfl⟩
      rw [hX] at HMK
      go_wp2_with fail
      refine (HMK.out _).mono ?_
      rintro e w4 ⟨rfl, hb4⟩
      have hb5 := ext_alloc hb4 (.cells #[.int .u32 0, .int .i64 0, .int .i64 X] 78)
      have HB5 := Lib.hid (ext_trans HB.out hb5)
      have HR5 := Lib.hid (HR.out.keep hb5)
      have HNW := Lib.hid (news_any w4 [.int .u32 0, .int .i64 0, .int .i64 X] 78)
      clear hb4 hb5
      go_wp2_with (at_builtin; refine wpList_append_elem _ rfl (.tmp 16) (.tmp 19) 27 rfl 78 i0 (.agg #[.int .u32 0, .int .i64 0, .int .i64 0]) 3 24 Tryz.underlying27 hi hz0 hz1 hz2 rfl (by decide) (.slice (some ⟨g, 0, none⟩) (L + k) cap) (L + k) (rowR (l ++ rwMarks k)) rfl HR5.out ⟨w4.heap.size, 0, none⟩ 1 [.int .u32 0, .int .i64 0, .int .i64 X] rfl rfl HNW.out (by simp [Value.oneCell']) (by unfold maxLen; omega) (by omega) ?_; intro g2 cap2 w6 hr6 hg6; have HR6 := Lib.hid hr6; have HG6 := Lib.hid hg6; clear hr6 hg6)
      go_roundw
      case rel =>
        have hrs : setL (rowR (l ++ rwMarks k)) (L + k) [.int .u32 0, .int .i64 0, .int .i64 X] = rowR (l ++ rwMarks (k + 1)) := by
          have h9 := rowR_snoc (l ++ rwMarks k) (mkRaw 1 k)
          rw [List.length_append, HL.out, show (rwMarks k).length = k by simp [rwMarks]] at h9
          rw [← hX, show rwMarks (k + 1) = rwMarks k ++ [mkRaw 1 k] by simp [rwMarks, List.range_succ], ← List.append_assoc, ← h9]
          rfl
        have hr6 := HR6.out
        rw [hrs] at hr6
        have hz5 := HB5.out.size
        refine ⟨k + 1, g2, cap2, by omega, by go_num, rfl, hr6.mono (fun j hj _ => ?_), HB5.out.grown HG6.out hz5 (fun j hj => HR5.out.block j hj)⟩
        rcases hj with hj | hj
        · exact hj
        · rw [hj]; exact hz5
      case measure => simp [intOf]; omega
    · obtain rfl : k = 12 := by omega
      have hcap := own_cap HR.out
      have hcap2 : ((L : Nat) : Int) ≤ (cap : Int) := by omega
      go_wp2_with fail
      go_ret
      exact ⟨g, cap, by rw [HL.out]; rfl, by rw [HL.out]; exact HR.out, HB.out⟩
theorem LentBookings_in (l : List Bk.Raw) (A : Option Addr) (c : Nat) (w : World) (hI : Bk.Raws w A l) (hA : A = none → l = [] ∧ c = 0) (hlen : l.length * 24 ≤ 140737488351232) :
    Calls Tryz.prog 25 #[.slice A l.length c] w (LentRwOut l w) := by
  cases A with
  | none =>
    obtain ⟨rfl, rfl⟩ := hA rfl
    exact LentBookings_none [] rfl w
  | some ad => exact LentBookings_some l ad c w hI hlen
end Go.Proofs.YtpoijhjjbmaedaaGreatDoor.Man
