/- Packed: Cab6 Cab7 Cab8 -/
import Derived.Test.YtpoijhjjbmaedaaGreatDoorCabA
import Derived.Test.YtpoijhjjbmaedaaGreatDoorPlainA
import Derived.IntWalk
import Derived.Lib.SmallJoins
import Derived.Test.YtpoijhjjbmaedaaGreatDoorCabB
set_option linter.unusedVariables false
set_option linter.unusedSimpArgs false
/- Cab6: The contracts of the cabin's reference: Check, Wrong, aisle, number. -/
section
namespace Go.Proofs.YtpoijhjjbmaedaaGreatDoor.Cab
open Go.RowKit

def cE (b : Bool) : Int := match b with | true => 0 | false => 2

-- gangwayref14.Check, rows or width out of bounds
set_option maxRecDepth 100000 in
set_option maxHeartbeats 1000000 in
theorem rCheck_out (r wd : Int) (S : Value) (w : World) (hrw : okRW r wd = false) :
    Calls Tryz.prog 48 #[.agg #[.int .i64 r, .int .i64 wd, S]] w fun e w' => e = .returned (.int .i64 2) ∧ Below w.heap.size w w' := by
  have H0 := Lib.hid (okRW_no hrw)
  clear hrw
  go_enter Tryz.func48, Tryz.ntmps48
  by_cases g1 : r < 1
  · go_wp2_with fail
    go_ret
    exact ⟨rfl, ext_alloc (Below.refl _ w) _⟩
  · by_cases g2 : 64 < r
    · go_wp2_with fail
      go_ret
      exact ⟨rfl, ext_alloc (Below.refl _ w) _⟩
    · by_cases g3 : wd < 1
      · go_wp2_with fail
        go_ret
        exact ⟨rfl, ext_alloc (Below.refl _ w) _⟩
      · have g4 : 16 < wd := by have := H0.out; omega
        go_wp2_with fail
        go_ret
        exact ⟨rfl, ext_alloc (Below.refl _ w) _⟩

set_option maxRecDepth 100000 in
set_option maxHeartbeats 1000000 in
theorem rCheck_in (r wd : Int) (zs : List Int) (A : Option Addr) (c : Nat) (w : World) (hI : Ints w A zs) (hlen : zs.length ≤ 20000000000000) (hrw : okRW r wd = true) :
    Calls Tryz.prog 48 #[.agg #[.int .i64 r, .int .i64 wd, .slice A zs.length c]] w fun e w' => e = .returned (.int .i64 (cE (okZs wd 0 zs))) ∧ Below w.heap.size w w' := by
  obtain ⟨h1, h2, h3, h4⟩ := okRW_yes hrw
  clear hrw
  have HI := Lib.hid (hI.keep (ext_alloc (Below.refl _ w) (.cells #[.int .i64 r, .int .i64 wd, .slice A zs.length c] 24)))
  clear hI
  go_enter Tryz.func48, Tryz.ntmps48
  go_wp2_with fail
  go_loopw [3, 4] (fun la i wr => ∃ k n : Nat, k ≤ zs.length ∧ i = .int .i64 k ∧ la = .int .i64 (lastOf zs k) ∧ okTo wd zs k ∧ wr = (w.alloc (.cells #[.int .i64 r, .int .i64 wd, .slice A zs.length c] 24)).drewN n) (fun _ i _ => (zs.length - intOf i).toNat)
  case atStart => exact ⟨0, 0, by omega, rfl, rfl, fun j hj => absurd hj (by omega), rfl⟩
  case round =>
    obtain ⟨k, n, hk, rfl, rfl, hto, rfl⟩ := hrel
    by_cases h : k < zs.length
    · obtain ⟨b, off, hA, hblk, hcell⟩ := HI.out (by intro e; subst e; simp at h)
      have hv := hcell k h
      subst hA
      clear hcell
      have hl := okTo_last hto
      have h0 : (0 : Int) ≤ (k : Int) := by omega
      have h9 : (k : Int) < (zs.length : Int) := by omega
      generalize hL : lastOf zs k = L at *
      generalize hX : zs.getD k 0 = X at *
      have HL := Lib.hid hL; have HX := Lib.hid hX; have HTO := Lib.hid hto
      clear hL hX hto
      by_cases g1 : X ≤ L
      · have hbad := okTo_not h (show ¬ (lastOf zs k < zs.getD k 0 ∧ zs.getD k 0 < wd) from by rw [HL.out, HX.out]; omega)
        have HBAD := Lib.hid hbad
        clear hbad
        go_wp2_with fail
        refine wp_region_quiet_lit (by kernel_rfl) (by kernel_rfl) ?_
        repeat (first | go_big_quiet_step ((fail)) | quiet_step ((fail)))
        refine wpQuiet_nil ?_
        intro _ hw'
        obtain ⟨nq, hw''⟩ := hw'
        subst hw''
        go_wp2_with fail
        go_ret
        exact ⟨ret_int (by rw [HBAD.out]; rfl), by repeat (first | with_reducible exact Below.refl _ _ | with_reducible refine ext_alloc ?_ _ | with_reducible refine ext_drew ?_ | with_reducible refine ext_drewN ?_ _ | (refine ext_setCell ?_ (by simp at *; omega) _) | with_reducible refine ext_trans ?_ (by assumption))⟩
      · by_cases g2 : X < wd
        · go_wp2_with fail
          refine wp_region_quiet_lit (by kernel_rfl) (by kernel_rfl) ?_
          repeat (first | go_big_quiet_step ((fail)) | quiet_step ((fail)))
          refine wpQuiet_nil ?_
          intro _ hw'
          obtain ⟨nq, hw''⟩ := hw'
          subst hw''
          go_wp2_with fail
          go_roundw
          case rel =>
            exact ⟨k + 1, _, by omega, by go_num, by simp only [lastOf]; rw [HX.out], okTo_next HTO.out (by rw [HL.out, HX.out]; omega) (by rw [HX.out]; exact g2), rfl⟩
          case measure => simp [intOf]; omega
        · have hbad := okTo_not h (show ¬ (lastOf zs k < zs.getD k 0 ∧ zs.getD k 0 < wd) from by rw [HL.out, HX.out]; omega)
          have HBAD := Lib.hid hbad
          clear hbad
          go_wp2_with fail
          refine wp_region_quiet_lit (by kernel_rfl) (by kernel_rfl) ?_
          repeat (first | go_big_quiet_step ((fail)) | quiet_step ((fail)))
          refine wpQuiet_nil ?_
          intro _ hw'
          obtain ⟨nq, hw''⟩ := hw'
          subst hw''
          go_wp2_with fail
          go_ret
          exact ⟨ret_int (by rw [HBAD.out]; rfl), by repeat (first | with_reducible exact Below.refl _ _ | with_reducible refine ext_alloc ?_ _ | with_reducible refine ext_drew ?_ | with_reducible refine ext_drewN ?_ _ | (refine ext_setCell ?_ (by simp at *; omega) _) | with_reducible refine ext_trans ?_ (by assumption))⟩
    · obtain rfl : k = zs.length := by omega
      have hok : okZs wd 0 zs = true := okZs_to.2 hto
      have HOK := Lib.hid hok
      clear hok hto HI
      go_wp2_with fail
      go_ret
      exact ⟨ret_int (by rw [HOK.out]; rfl), by repeat (first | with_reducible exact Below.refl _ _ | with_reducible refine ext_alloc ?_ _ | with_reducible refine ext_drew ?_ | with_reducible refine ext_drewN ?_ _ | (refine ext_setCell ?_ (by simp at *; omega) _) | with_reducible refine ext_trans ?_ (by assumption))⟩

theorem rCheck (r wd : Int) (zs : List Int) (A : Option Addr) (c : Nat) (w : World) (hI : Ints w A zs) (hlen : zs.length ≤ 20000000000000) :
    Calls Tryz.prog 48 #[.agg #[.int .i64 r, .int .i64 wd, .slice A zs.length c]] w fun e w' => e = .returned (.int .i64 (cE (okC r wd zs))) ∧ Below w.heap.size w w' := by
  cases hrw : okRW r wd with
  | false =>
    rw [show okC r wd zs = false from by rw [okC, hrw]; rfl]
    exact rCheck_out r wd (.slice A zs.length c) w hrw
  | true =>
    rw [show okC r wd zs = okZs wd 0 zs from by rw [okC, hrw]; rfl]
    exact rCheck_in r wd zs A c w hI hlen hrw
theorem rCheck_yes (r wd : Int) (zs : List Int) (A : Option Addr) (c : Nat) (w : World) (hI : Ints w A zs) (hlen : zs.length ≤ 20000000000000) (hok : okC r wd zs = true) :
    Calls Tryz.prog 48 #[.agg #[.int .i64 r, .int .i64 wd, .slice A zs.length c]] w fun e w' => e = .returned (.int .i64 0) ∧ Below w.heap.size w w' := by
  have h := rCheck r wd zs A c w hI hlen
  rw [hok] at h; exact h
theorem rCheck_no (r wd : Int) (zs : List Int) (A : Option Addr) (c : Nat) (w : World) (hI : Ints w A zs) (hlen : zs.length ≤ 20000000000000) (hok : okC r wd zs = false) :
    Calls Tryz.prog 48 #[.agg #[.int .i64 r, .int .i64 wd, .slice A zs.length c]] w fun e w' => e = .returned (.int .i64 2) ∧ Below w.heap.size w w' := by
  have h := rCheck r wd zs A c w hI hlen
  rw [hok] at h; exact h

end Go.Proofs.YtpoijhjjbmaedaaGreatDoor.Cab
end

/- Cab7: The contracts of the cabin's reference, second part: number, Wrong, Text, Parse. -/
section
namespace Go.Proofs.YtpoijhjjbmaedaaGreatDoor.Cab
open Go.RowKit

/-- digits; none for 0 -/
def dd0 (m : Nat) : List UInt8 := if m = 0 then [] else Lib.decDigits m
theorem dd0_all : ∀ m : Fin 100, 0 < m.val → dd0 m.val = dd0 (m.val / 10) ++ [UInt8.ofNat (48 + m.val % 10)] := by decide +kernel

/-- 'string(b)' at a step of the walk, b's cells being the bytes l -/
theorem upon_text {P : Program} {o : Oper} {a : Act} {next : Act → World → Prop} {Q : Exit → Act → World → Prop} {w : World} {A : Addr} {cap : Nat} (l : List UInt8) {src dst e : TypeId}
    (hs : P.underlying src = some (.slice e)) (he : P.underlying e = some (.int .u8)) (hd : P.underlying dst = some .string)
    (hc : ∀ j (hj : j < l.length), w.cell? (A.add j) = some (.int .u8 (l[j].toNat : Int)))
    (h : next (a.put o.dst (.string ⟨l.toArray⟩)) w) :
    o.upon P a next Q (((convert src dst (.slice (some A) l.length cap)).run P w).andThen fun v w' => .ok (.value v) w') := by
  rw [run_convert_bytes_back w src dst e A cap l hs he hd hc]
  exact h
theorem byte_dig (k : Nat) : (((UInt8.ofNat (48 + k % 10)).toNat : Nat) : Int) = 48 + (k : Int) % 10 := by
  rw [UInt8.toNat_ofNat']; omega

-- gangwayref14.number
set_option maxRecDepth 100000 in
set_option maxHeartbeats 1000000 in
theorem rNumber (n : Nat) (hn : 0 < n) (hn2 : n < 100) (w : World) :
    Calls Tryz.prog 90 #[.int .i64 n] w fun e w' => e = .returned (.string ⟨(Lib.decDigits n).toArray⟩) ∧ Below w.heap.size w w' := by
  go_enter Tryz.func90, Tryz.ntmps90
  go_wp2_with fail
  go_loopw [0, 3] (fun m s wr => ∃ (k : Nat) (acc : List UInt8), k < 100 ∧ m = .int .i64 k ∧ s = .string ⟨acc.toArray⟩ ∧ dd0 k ++ acc = Lib.decDigits n ∧ Below w.heap.size w wr) (fun m _ _ => (intOf m).toNat)
  case atStart => exact ⟨n, [], hn2, rfl, rfl, by simp [dd0]; omega, Below.refl _ _⟩
  case round =>
    obtain ⟨k, acc, hk, rfl, rfl, hd, hb⟩ := hrel
    have hdl := dd_len hn2
    have hacc : acc.length ≤ 2 := by have := congrArg List.length hd; rw [List.length_append] at this; omega
    by_cases h : 0 < k
    · have H := Lib.hid hd
      clear hd
      have hz := hb.size
      go_wp2_with fail
      refine upon_text [UInt8.ofNat (48 + k % 10)] Tryz.underlying96 Tryz.underlying5 Tryz.underlying9 (fun j hj => ?_) ?_
      · obtain rfl : j = 0 := by simpa using hj
        rw [add_zero_off]
        refine ((Arr.fresh wr _ _).cell 0).trans ?_
        show some (Value.int .u8 (48 + (k : Int) % 10)) = some (.int .u8 (((UInt8.ofNat (48 + k % 10)).toNat : Nat) : Int))
        rw [byte_dig]
      have hln : ¬ 9223372036854775807 < 1 + acc.length := by omega
      go_wp2_with fail
      go_roundw
      case rel =>
        refine ⟨k / 10, UInt8.ofNat (48 + k % 10) :: acc, by omega, by go_num, ?_, ?_, by repeat (first | with_reducible exact Below.refl _ _ | with_reducible refine ext_alloc ?_ _ | with_reducible refine ext_drew ?_ | with_reducible refine ext_drewN ?_ _ | (refine ext_setCell ?_ (by simp at *; omega) _) | with_reducible refine ext_trans ?_ (by assumption))⟩
        · congr 1
          apply ByteArray.ext
          rw [ByteArray.data_append]
          simp
        · have h5 := dd0_all ⟨k, hk⟩ h
          simp only at h5
          rw [← H.out, h5, List.append_assoc]; rfl
      case measure => simp [intOf]; omega
    · obtain rfl : k = 0 := by omega
      have H := Lib.hid hd
      clear hd
      go_wp2_with fail
      go_ret
      exact ⟨by have := H.out; rw [← this]; rfl, hb⟩

-- MARK gen/cab7.py
-- gangwayref14.Wrong
set_option maxRecDepth 100000 in
set_option maxHeartbeats 1000000 in
theorem rWrong_yes (r wd : Int) (zs : List Int) (A : Option Addr) (c : Nat) (s : Int) (w : World) (hI : Ints w A zs) (hlen : zs.length ≤ 20000000000000) (hok : okC r wd zs = true) (hs0 : 0 ≤ s) (hs1 : s < r * wd) :
    Calls Tryz.prog 89 #[.agg #[.int .i64 r, .int .i64 wd, .slice A zs.length c], .int .i64 s] w fun e w' => e = .returned (.int .i64 0) ∧ Below w.heap.size w w' := by
  have HI := Lib.hid (hI.keep (ext_alloc (Below.refl _ w) (.cells #[.int .i64 r, .int .i64 wd, .slice A zs.length c] 24)))
  have HOK := Lib.hid hok
  obtain ⟨⟨o1, o2, o3, o4⟩, _⟩ := okC_yes hok
  have q1 : 0 ≤ r * wd := Int.mul_nonneg (by omega) (by omega)
  have q2 : r * wd ≤ 64 * 16 := Int.mul_le_mul (by omega) (by omega) (by omega) (by omega)
  clear hI hok
  go_enter Tryz.func89, Tryz.ntmps89
  go_wp2_with fail
  refine (rCheck_yes r wd zs A c _ HI.out hlen HOK.out).mono ?_
  rintro e w1 ⟨rfl, hb⟩
  have hbw := ext_trans (ext_alloc (Below.refl _ w) _) hb
  have x0 : w1.cell? ⟨w.heap.size, 0, none⟩ = some (.int .i64 r) := by
    rw [hb.cell (p := ⟨w.heap.size, 0, none⟩) (by simp)]; simp
  have x1 : w1.cell? ⟨w.heap.size, 1, none⟩ = some (.int .i64 wd) := by
    rw [hb.cell (p := ⟨w.heap.size, 1, none⟩) (by simp)]; simp
  have hz1 : w.heap.size < w1.heap.size := by have := hb.size; simp at this; omega
  go_wp2_with fail
  go_ret
  exact ⟨rfl, hbw⟩

-- gangwayref14.Wrong
set_option maxRecDepth 100000 in
set_option maxHeartbeats 1000000 in
theorem rWrong_seat (r wd : Int) (zs : List Int) (A : Option Addr) (c : Nat) (s : Int) (w : World) (hI : Ints w A zs) (hlen : zs.length ≤ 20000000000000) (hok : okC r wd zs = true) (hs : s < 0 ∨ r * wd ≤ s) :
    Calls Tryz.prog 89 #[.agg #[.int .i64 r, .int .i64 wd, .slice A zs.length c], .int .i64 s] w fun e w' => e = .returned (.int .i64 140) ∧ Below w.heap.size w w' := by
  have HI := Lib.hid (hI.keep (ext_alloc (Below.refl _ w) (.cells #[.int .i64 r, .int .i64 wd, .slice A zs.length c] 24)))
  have HOK := Lib.hid hok
  obtain ⟨⟨o1, o2, o3, o4⟩, _⟩ := okC_yes hok
  have q1 : 0 ≤ r * wd := Int.mul_nonneg (by omega) (by omega)
  have q2 : r * wd ≤ 64 * 16 := Int.mul_le_mul (by omega) (by omega) (by omega) (by omega)
  have HS := Lib.hid hs
  clear hs
  clear hI hok
  go_enter Tryz.func89, Tryz.ntmps89
  go_wp2_with fail
  refine (rCheck_yes r wd zs A c _ HI.out hlen HOK.out).mono ?_
  rintro e w1 ⟨rfl, hb⟩
  have hbw := ext_trans (ext_alloc (Below.refl _ w) _) hb
  have x0 : w1.cell? ⟨w.heap.size, 0, none⟩ = some (.int .i64 r) := by
    rw [hb.cell (p := ⟨w.heap.size, 0, none⟩) (by simp)]; simp
  have x1 : w1.cell? ⟨w.heap.size, 1, none⟩ = some (.int .i64 wd) := by
    rw [hb.cell (p := ⟨w.heap.size, 1, none⟩) (by simp)]; simp
  have hz1 : w.heap.size < w1.heap.size := by have := hb.size; simp at this; omega
  by_cases g1 : s < 0
  · go_wp2_with fail
    go_ret
    exact ⟨rfl, hbw⟩
  · have g2 : r * wd ≤ s := by have := HS.out; omega
    go_wp2_with fail
    go_ret
    exact ⟨rfl, hbw⟩

-- gangwayref14.Wrong
set_option maxRecDepth 100000 in
set_option maxHeartbeats 1000000 in
theorem rWrong_no (r wd : Int) (zs : List Int) (A : Option Addr) (c : Nat) (s : Int) (w : World) (hI : Ints w A zs) (hlen : zs.length ≤ 20000000000000) (hok : okC r wd zs = false) :
    Calls Tryz.prog 89 #[.agg #[.int .i64 r, .int .i64 wd, .slice A zs.length c], .int .i64 s] w fun e w' => e = .returned (.int .i64 2) ∧ Below w.heap.size w w' := by
  have HI := Lib.hid (hI.keep (ext_alloc (Below.refl _ w) (.cells #[.int .i64 r, .int .i64 wd, .slice A zs.length c] 24)))
  have HOK := Lib.hid hok
  clear hI hok
  go_enter Tryz.func89, Tryz.ntmps89
  go_wp2_with fail
  refine (rCheck_no r wd zs A c _ HI.out hlen HOK.out).mono ?_
  rintro e w1 ⟨rfl, hb⟩
  have hbw := ext_trans (ext_alloc (Below.refl _ w) _) hb
  have x0 : w1.cell? ⟨w.heap.size, 0, none⟩ = some (.int .i64 r) := by
    rw [hb.cell (p := ⟨w.heap.size, 0, none⟩) (by simp)]; simp
  have x1 : w1.cell? ⟨w.heap.size, 1, none⟩ = some (.int .i64 wd) := by
    rw [hb.cell (p := ⟨w.heap.size, 1, none⟩) (by simp)]; simp
  have hz1 : w.heap.size < w1.heap.size := by have := hb.size; simp at this; omega
  go_wp2_with fail
  go_ret
  exact ⟨rfl, hbw⟩

theorem keep1 {w W w1 : World} {g : Nat} {k : Nat} {x : Value} (h : W.cell? ⟨g, k, none⟩ = some x ∧ Below w.heap.size w W ∧ g < W.heap.size) (hb : Below W.heap.size W w1) :
    w1.cell? ⟨g, k, none⟩ = some x ∧ Below w.heap.size w w1 ∧ g < w1.heap.size :=
  ⟨(hb.cell (p := ⟨g, k, none⟩) h.2.2).trans h.1, ext_trans h.2.1 hb, Nat.lt_of_lt_of_le h.2.2 hb.size⟩

theorem rNumberI (n : Int) (m : Nat) (h : n = (m : Int)) (hn : 0 < m) (hn2 : m < 100) (w : World) :
    Calls Tryz.prog 90 #[.int .i64 n] w fun e w' => e = .returned (.string ⟨(Lib.decDigits m).toArray⟩) ∧ Below w.heap.size w w' := by
  subst h; exact rNumber m hn hn2 w

-- gangwayref14.Text
set_option maxRecDepth 100000 in
set_option maxHeartbeats 1000000 in
theorem rText_yes (r wd : Int) (zs : List Int) (A : Option Addr) (c : Nat) (s : Int) (row col : Nat) (w : World) (hI : Ints w A zs) (hlen : zs.length ≤ 20000000000000) (hok : okC r wd zs = true) (hs0 : 0 ≤ s) (hs1 : s < r * wd) (hrow : s / wd = row) (hcol : s % wd = col) :
    Calls Tryz.prog 50 #[.agg #[.int .i64 r, .int .i64 wd, .slice A zs.length c], .int .i64 s] w fun e w' => e = .returned (.tuple #[.string ⟨(seatT row col).toArray⟩, .int .i64 0]) ∧ Below w.heap.size w w' := by
  have HI := Lib.hid (hI.keep (ext_alloc (Below.refl _ w) (.cells #[.int .i64 r, .int .i64 wd, .slice A zs.length c] 24)))
  have HOK := Lib.hid hok
  obtain ⟨⟨o1, o2, o3, o4⟩, _⟩ := okC_yes hok
  clear hI hok
  have hr : row < 64 := by
    have h1 : s / wd < r := Int.ediv_lt_of_lt_mul (by omega) hs1
    omega
  have hcl : col < 16 := by have := Int.emod_lt_of_pos s (show 0 < wd by omega); omega
  have hsl : ∀ W : World, (Instr.slice 9 (.string (ByteArray.mk #[65, 66, 67, 68, 69, 70, 71, 72, 74, 75, 76, 77, 78, 79, 80, 81])) (some (.int .i64 (col : Int))) (some (.int .i64 ((col : Int) + 1))) none).run Tryz.prog W = .ok (.string ⟨#[cB col]⟩) W := fun W => by
    have h16 : ((ByteArray.mk #[65, 66, 67, 68, 69, 70, 71, 72, 74, 75, 76, 77, 78, 79, 80, 81]).size : Int) = 16 := by decide
    have h := run_slice_string (P := Tryz.prog) W 9 (ByteArray.mk #[65, 66, 67, 68, 69, 70, 71, 72, 74, 75, 76, 77, 78, 79, 80, 81]) .i64 .i64 (col : Int) ((col : Int) + 1) Tryz.underlying9 (by omega) (by omega) (by rw [h16]; omega)
    rw [show ((col : Int) + 1).toNat = col + 1 from by omega, Int.toNat_natCast, cut16 hcl] at h
    exact h
  have hdl := dd_len (show row + 1 < 100 by omega)
  have hdn : ¬ 9223372036854775807 < (Lib.decDigits (row + 1)).length + 1 := by omega
  have q2 : r * wd ≤ 64 * 16 := Int.mul_le_mul (by omega) (by omega) (by omega) (by omega)
  have hrn : 0 < row + 1 := by omega
  have hrm : row + 1 < 100 := by omega
  have HRN := Lib.hid (show s / wd + 1 = ((row + 1 : Nat) : Int) from by omega)
  have HC := Lib.hid hcol
  have q3 : 0 ≤ s / wd := Int.ediv_nonneg (by omega) (by omega)
  have q4 : s / wd ≤ s := Int.ediv_le_self _ (by omega)
  have v1 : IntKind.i64.wrap (s / wd + 1) = s / wd + 1 := IntWalk.i64_in _ (by omega)
  have v0 : IntKind.i64.wrap (s.tdiv wd) = s / wd := by rw [Int.tdiv_eq_ediv_of_nonneg hs0]; exact IntWalk.i64_in _ (by omega)
  have w0 : ¬ wd = 0 := by omega
  clear hrow hcol
  go_enter Tryz.func50, Tryz.ntmps50
  go_wp2_with fail
  refine (rWrong_yes r wd zs A c s _ HI.out hlen HOK.out hs0 hs1).mono ?_
  rintro e w1 ⟨rfl, hb⟩
  have hbw := ext_trans (ext_alloc (Below.refl _ w) _) hb
  have x0 : w1.cell? ⟨w.heap.size, 0, none⟩ = some (.int .i64 r) := by
    rw [hb.cell (p := ⟨w.heap.size, 0, none⟩) (by simp)]; simp
  have x1 : w1.cell? ⟨w.heap.size, 1, none⟩ = some (.int .i64 wd) := by
    rw [hb.cell (p := ⟨w.heap.size, 1, none⟩) (by simp)]; simp
  have hz1 : w.heap.size < w1.heap.size := by have := hb.size; simp at this; omega
  clear hb
  have v2 : IntKind.i64.wrap ((col : Int) + 1) = (col : Int) + 1 := IntWalk.i64_in _ (by omega)
  go_wp2_with fail
  rw [HC.out]
  have hS : w1.cell? ⟨w.heap.size, 1, none⟩ = some (.int .i64 wd) ∧ Below w.heap.size w w1 ∧ w.heap.size < w1.heap.size := ⟨x1, hbw, hz1⟩
  go_region_held3 (fun w' => w'.cell? ⟨w.heap.size, 1, none⟩ = some (.int .i64 wd) ∧ Below w.heap.size w w' ∧ w.heap.size < w'.heap.size)
    (first | assumption | exact keep1 hS (ext_drew (Below.refl _ _)) | exact keep1 (by assumption) (by assumption))
    (first | (go_at_call 90; refine (rNumberI (s / wd + 1) (row + 1) HRN.out hrn hrm _).mono ?_; rintro e w3 ⟨rfl, hb3⟩))
  all_goals
    go_wp2_with fail
    go_ret2
    refine ⟨by rw [seatT, ← glue1]; rfl, ?_⟩
    repeat (first | with_reducible exact Below.refl _ _ | with_reducible refine ext_alloc ?_ _ | with_reducible refine ext_drew ?_ | with_reducible refine ext_drewN ?_ _ | (refine ext_setCell ?_ (by simp at *; omega) _) | with_reducible refine ext_trans ?_ (by assumption))

-- gangwayref14.Text
set_option maxRecDepth 100000 in
set_option maxHeartbeats 1000000 in
theorem rText_seat (r wd : Int) (zs : List Int) (A : Option Addr) (c : Nat) (s : Int) (w : World) (hI : Ints w A zs) (hlen : zs.length ≤ 20000000000000) (hok : okC r wd zs = true) (hs : s < 0 ∨ r * wd ≤ s) :
    Calls Tryz.prog 50 #[.agg #[.int .i64 r, .int .i64 wd, .slice A zs.length c], .int .i64 s] w fun e w' => e = .returned (.tuple #[.string ⟨#[]⟩, .int .i64 140]) ∧ Below w.heap.size w w' := by
  have HI := Lib.hid (hI.keep (ext_alloc (Below.refl _ w) (.cells #[.int .i64 r, .int .i64 wd, .slice A zs.length c] 24)))
  have HOK := Lib.hid hok
  clear hI hok
  go_enter Tryz.func50, Tryz.ntmps50
  go_wp2_with fail
  refine (rWrong_seat r wd zs A c s _ HI.out hlen HOK.out hs).mono ?_
  rintro e w1 ⟨rfl, hb⟩
  have hbw := ext_trans (ext_alloc (Below.refl _ w) _) hb
  have x0 : w1.cell? ⟨w.heap.size, 0, none⟩ = some (.int .i64 r) := by
    rw [hb.cell (p := ⟨w.heap.size, 0, none⟩) (by simp)]; simp
  have x1 : w1.cell? ⟨w.heap.size, 1, none⟩ = some (.int .i64 wd) := by
    rw [hb.cell (p := ⟨w.heap.size, 1, none⟩) (by simp)]; simp
  have hz1 : w.heap.size < w1.heap.size := by have := hb.size; simp at this; omega
  go_wp2_with fail
  go_ret2
  exact ⟨rfl, hbw⟩

-- gangwayref14.Text
set_option maxRecDepth 100000 in
set_option maxHeartbeats 1000000 in
theorem rText_no (r wd : Int) (zs : List Int) (A : Option Addr) (c : Nat) (s : Int) (w : World) (hI : Ints w A zs) (hlen : zs.length ≤ 20000000000000) (hok : okC r wd zs = false) :
    Calls Tryz.prog 50 #[.agg #[.int .i64 r, .int .i64 wd, .slice A zs.length c], .int .i64 s] w fun e w' => e = .returned (.tuple #[.string ⟨#[]⟩, .int .i64 2]) ∧ Below w.heap.size w w' := by
  have HI := Lib.hid (hI.keep (ext_alloc (Below.refl _ w) (.cells #[.int .i64 r, .int .i64 wd, .slice A zs.length c] 24)))
  have HOK := Lib.hid hok
  clear hI hok
  go_enter Tryz.func50, Tryz.ntmps50
  go_wp2_with fail
  refine (rWrong_no r wd zs A c s _ HI.out hlen HOK.out).mono ?_
  rintro e w1 ⟨rfl, hb⟩
  have hbw := ext_trans (ext_alloc (Below.refl _ w) _) hb
  have x0 : w1.cell? ⟨w.heap.size, 0, none⟩ = some (.int .i64 r) := by
    rw [hb.cell (p := ⟨w.heap.size, 0, none⟩) (by simp)]; simp
  have x1 : w1.cell? ⟨w.heap.size, 1, none⟩ = some (.int .i64 wd) := by
    rw [hb.cell (p := ⟨w.heap.size, 1, none⟩) (by simp)]; simp
  have hz1 : w.heap.size < w1.heap.size := by have := hb.size; simp at this; omega
  go_wp2_with fail
  go_ret2
  exact ⟨rfl, hbw⟩

end Go.Proofs.YtpoijhjjbmaedaaGreatDoor.Cab
end

/- Cab8: The contracts of the cabin's reference, third part: Parse. -/
section
namespace Go.Proofs.YtpoijhjjbmaedaaGreatDoor.Cab
open Go.RowKit

-- gangwayref14.Parse, a seat's name
set_option maxRecDepth 100000 in
set_option maxHeartbeats 1000000 in
theorem rParse_seat (r wd : Int) (zs : List Int) (A : Option Addr) (c : Nat) (row col : Nat) (w : World) (hI : Ints w A zs) (hlen : zs.length ≤ 20000000000000) (hok : okC r wd zs = true) (h0 : (row : Int) < r) (h1 : (col : Int) < wd) :
    Calls Tryz.prog 140 #[.agg #[.int .i64 r, .int .i64 wd, .slice A zs.length c], .string ⟨(seatT row col).toArray⟩] w fun e w' => e = .returned (.tuple #[.int .i64 ((row : Int) * wd + col), .int .i64 0]) ∧ Below w.heap.size w w' := by
  have HI := Lib.hid (hI.keep (ext_alloc (Below.refl _ w) (.cells #[.int .i64 r, .int .i64 wd, .slice A zs.length c] 24)))
  have HI0 := Lib.hid hI
  have HOK := Lib.hid hok
  obtain ⟨g0, g1, g2, g3⟩ := rc_seat hok h0 h1
  obtain ⟨⟨o1, o2, o3, o4⟩, _⟩ := okC_yes hok
  have q1 : 0 ≤ r * wd := Int.mul_nonneg (by omega) (by omega)
  have q2 : r * wd ≤ 64 * 16 := Int.mul_le_mul (by omega) (by omega) (by omega) (by omega)
  obtain ⟨k, hk⟩ : ∃ k : Nat, (row : Int) * wd + col = (k : Int) := ⟨((row : Int) * wd + col).toNat, by omega⟩
  rw [hk] at g0 g1 g2 g3 ⊢
  have HG2 := Lib.hid g2; have HG3 := Lib.hid g3
  clear g2 g3 hk
  clear hI hok
  go_enter Tryz.func140, Tryz.ntmps140
  go_wp2_with fail
  refine (rCheck_yes r wd zs A c _ HI.out hlen HOK.out).mono ?_
  rintro e w1 ⟨rfl, hb⟩
  have hbw := ext_trans (ext_alloc (Below.refl _ w) _) hb
  have hA1 : Arr w1 w.heap.size 24 #[.int .i64 r, .int .i64 wd, .slice A zs.length c] := (Arr.fresh w _ _).keep hb
  clear hb
  go_wp2_with fail
  go_loopw [7] (fun i wr => ∃ j : Nat, (j : Int) ≤ (k : Int) ∧ i = .int .i64 j ∧ Arr wr w.heap.size 24 #[.int .i64 r, .int .i64 wd, .slice A zs.length c] ∧ Below w.heap.size w wr) (fun i _ => (r * wd - intOf i).toNat)
  case atStart => exact ⟨0, by omega, rfl, hA1, hbw⟩
  case round =>
    obtain ⟨j, hj, rfl, hA, hb⟩ := hrel
    have x0 : wr.cell? ⟨w.heap.size, 0, none⟩ = some (.int .i64 r) := hA.cell 0
    have x1 : wr.cell? ⟨w.heap.size, 1, none⟩ = some (.int .i64 wd) := hA.cell 1
    have x2 : wr.cell? ⟨w.heap.size, 2, none⟩ = some (.slice A zs.length c) := hA.cell 2
    have HI2 := Lib.hid (HI0.out.keep hb)
    have h2 : (j : Int) < r * wd := by omega
    by_cases h : j < k
    ·
      obtain ⟨rj, cj, e1, e2, e3, e4, e5, e6, e7⟩ := seat_rc HOK.out (show 0 ≤ (j : Int) by omega) h2
      have hne : (seatT rj cj == seatT row col) = false := beq_eq_false_iff_ne.2 (fun he => by
        obtain ⟨f1, f2⟩ := seatT_inj e5 e6 (by omega) (by omega) he
        subst f1 f2
        have f3 := rc_seat HOK.out h0 h1
        have f4 := Int.mul_ediv_add_emod (k : Int) wd
        have f5 := Int.mul_ediv_add_emod (j : Int) wd
        rw [HG2.out, HG3.out] at f4
        rw [e1, e2] at f5
        omega)
      have HJ := Lib.hid e1; have HK := Lib.hid e2
      clear e1 e2 e7
      go_wp2_with fail
      refine (rText_yes r wd zs A c j rj cj _ HI2.out hlen HOK.out (by omega) h2 HJ.out HK.out).mono ?_
      rintro e w2 ⟨rfl, hb2⟩
      have hA2 := hA.keep hb2
      go_wp2_with fail
      go_roundw
      case rel => exact ⟨j + 1, by omega, by go_num, hA2, ext_trans hb hb2⟩
      case measure => simp [intOf]; omega
    · obtain rfl : j = k := by omega
      go_wp2_with fail
      refine (rText_yes r wd zs A c j row col _ HI2.out hlen HOK.out (by omega) h2 HG2.out HG3.out).mono ?_
      rintro e w2 ⟨rfl, hb2⟩
      go_wp2_with fail
      go_ret2
      exact ⟨rfl, ext_trans hb hb2⟩

-- gangwayref14.Parse, no seat's name
set_option maxRecDepth 100000 in
set_option maxHeartbeats 1000000 in
theorem rParse_none (r wd : Int) (zs : List Int) (A : Option Addr) (c : Nat) (l : List UInt8) (w : World) (hI : Ints w A zs) (hlen : zs.length ≤ 20000000000000) (hok : okC r wd zs = true) (hno : ∀ row col : Nat, (row : Int) < r → (col : Int) < wd → seatT row col ≠ l) :
    Calls Tryz.prog 140 #[.agg #[.int .i64 r, .int .i64 wd, .slice A zs.length c], .string ⟨l.toArray⟩] w fun e w' => e = .returned (.tuple #[.int .i64 0, .int .i64 140]) ∧ Below w.heap.size w w' := by
  have HI := Lib.hid (hI.keep (ext_alloc (Below.refl _ w) (.cells #[.int .i64 r, .int .i64 wd, .slice A zs.length c] 24)))
  have HI0 := Lib.hid hI
  have HOK := Lib.hid hok
  obtain ⟨⟨o1, o2, o3, o4⟩, _⟩ := okC_yes hok
  have q1 : 0 ≤ r * wd := Int.mul_nonneg (by omega) (by omega)
  have q2 : r * wd ≤ 64 * 16 := Int.mul_le_mul (by omega) (by omega) (by omega) (by omega)
  have HN := Lib.hid hno
  clear hno
  clear hI hok
  go_enter Tryz.func140, Tryz.ntmps140
  go_wp2_with fail
  refine (rCheck_yes r wd zs A c _ HI.out hlen HOK.out).mono ?_
  rintro e w1 ⟨rfl, hb⟩
  have hbw := ext_trans (ext_alloc (Below.refl _ w) _) hb
  have hA1 : Arr w1 w.heap.size 24 #[.int .i64 r, .int .i64 wd, .slice A zs.length c] := (Arr.fresh w _ _).keep hb
  clear hb
  go_wp2_with fail
  go_loopw [7] (fun i wr => ∃ j : Nat, (j : Int) ≤ r * wd ∧ i = .int .i64 j ∧ Arr wr w.heap.size 24 #[.int .i64 r, .int .i64 wd, .slice A zs.length c] ∧ Below w.heap.size w wr) (fun i _ => (r * wd - intOf i).toNat)
  case atStart => exact ⟨0, by omega, rfl, hA1, hbw⟩
  case round =>
    obtain ⟨j, hj, rfl, hA, hb⟩ := hrel
    have x0 : wr.cell? ⟨w.heap.size, 0, none⟩ = some (.int .i64 r) := hA.cell 0
    have x1 : wr.cell? ⟨w.heap.size, 1, none⟩ = some (.int .i64 wd) := hA.cell 1
    have x2 : wr.cell? ⟨w.heap.size, 2, none⟩ = some (.slice A zs.length c) := hA.cell 2
    have HI2 := Lib.hid (HI0.out.keep hb)
    by_cases h2 : (j : Int) < r * wd
    ·
      obtain ⟨rj, cj, e1, e2, e3, e4, e5, e6, e7⟩ := seat_rc HOK.out (show 0 ≤ (j : Int) by omega) h2
      have hne : (seatT rj cj == l) = false := beq_eq_false_iff_ne.2 (HN.out rj cj e3 e4)
      have HJ := Lib.hid e1; have HK := Lib.hid e2
      clear e1 e2 e7
      go_wp2_with fail
      refine (rText_yes r wd zs A c j rj cj _ HI2.out hlen HOK.out (by omega) h2 HJ.out HK.out).mono ?_
      rintro e w2 ⟨rfl, hb2⟩
      have hA2 := hA.keep hb2
      go_wp2_with fail
      go_roundw
      case rel => exact ⟨j + 1, by omega, by go_num, hA2, ext_trans hb hb2⟩
      case measure => simp [intOf]; omega
    · have h3 : r * wd ≤ (j : Int) := by omega
      go_wp2_with fail
      go_ret2
      exact ⟨rfl, hb⟩

-- gangwayref14.Parse, a cabin that may not be
set_option maxRecDepth 100000 in
set_option maxHeartbeats 1000000 in
theorem rParse_no (r wd : Int) (zs : List Int) (A : Option Addr) (c : Nat) (l : List UInt8) (w : World) (hI : Ints w A zs) (hlen : zs.length ≤ 20000000000000) (hok : okC r wd zs = false) :
    Calls Tryz.prog 140 #[.agg #[.int .i64 r, .int .i64 wd, .slice A zs.length c], .string ⟨l.toArray⟩] w fun e w' => e = .returned (.tuple #[.int .i64 0, .int .i64 2]) ∧ Below w.heap.size w w' := by
  have HI := Lib.hid (hI.keep (ext_alloc (Below.refl _ w) (.cells #[.int .i64 r, .int .i64 wd, .slice A zs.length c] 24)))
  have HI0 := Lib.hid hI
  have HOK := Lib.hid hok
  clear hI hok
  go_enter Tryz.func140, Tryz.ntmps140
  go_wp2_with fail
  refine (rCheck_no r wd zs A c _ HI.out hlen HOK.out).mono ?_
  rintro e w1 ⟨rfl, hb⟩
  have hbw := ext_trans (ext_alloc (Below.refl _ w) _) hb
  go_wp2_with fail
  go_ret2
  exact ⟨rfl, hbw⟩

end Go.Proofs.YtpoijhjjbmaedaaGreatDoor.Cab
end
