/- CabinParses: every text. -/
import Derived.Test.YtablpncipkbfhaaDoorCabAw
import Derived.Test.YtablpncipkbfhaaDoorCab8
namespace Go.Proofs.YtablpncipkbfhaaDoor.Cab
open Go.RowKit

set_option maxRecDepth 100000 in
set_option maxHeartbeats 1000000 in
theorem Parses_way (r wd : Int) (zs : List Int) (A : Option Addr) (c : Nat) (s : ByteArray) (n e0 : Int) (w : World) (hI : Ints w A zs) (hN : A = none → zs = [] ∧ c = 0) (hlen : zs.length ≤ 17592186043904) (hev : EV w)
    (hp : ∀ A c w, Ints w A zs → EV w → Calls Tryd.prog 11 #[.agg #[.int .i64 r, .int .i64 wd, .slice A zs.length c], .string s] w fun e w' => e = .returned (.tuple #[.int .i64 n, .int .i64 e0]) ∧ Below w.heap.size w w')
    (hq : ∀ A c w, Ints w A zs → Calls Tryd.prog 13 #[.agg #[.int .i64 r, .int .i64 wd, .slice A zs.length c], .string s] w fun e w' => e = .returned (.tuple #[.int .i64 n, .int .i64 e0]) ∧ Below w.heap.size w w') :
    Calls Tryd.prog 3 #[.agg #[.int .i64 r, .int .i64 wd, .slice A zs.length c], .string s] w fun e w' => e = .returned (.bool true) ∧ Below w.heap.size w w' := by
  have HE := Lib.hid (hev.keep (ext_alloc (Below.refl _ w) (.cells #[.int .i64 r, .int .i64 wd, .slice A zs.length c] 24)))
  have HI := Lib.hid hI
  have HN := Lib.hid hN
  have HP := Lib.hid hp
  have HQ := Lib.hid hq
  clear hI hev hN hp hq
  go_enter Tryd.func3, Tryd.ntmps3
  go_wp2_with fail
  refine (Awake _ HE.out).mono ?_
  rintro e w1 ⟨rfl, hb⟩
  have hA1 := (Arr.fresh w 24 #[.int .i64 r, .int .i64 wd, .slice A zs.length c]).keep hb
  have hb1 := ext_trans (ext_alloc (Below.refl _ w) _) hb
  have HE1 := Lib.hid (HE.out.keep hb)
  clear hb HE
  have x0 : w1.cell? ⟨w.heap.size, 0, none⟩ = some (.int .i64 r) := hA1.cell 0
  have x1 : w1.cell? ⟨w.heap.size, 1, none⟩ = some (.int .i64 wd) := hA1.cell 1
  have x2 : w1.cell? ⟨w.heap.size, 2, none⟩ = some (.slice A zs.length c) := hA1.cell 2
  go_wp2_with fail
  refine (CopyCabin r wd zs A c _ (HI.out.keep hb1) HN.out hlen).mono ?_
  rintro e w2 ⟨A', c', rfl, hi, hb⟩
  have hA2 := hA1.keep hb
  have hb2 := ext_trans hb1 hb
  have HE2 := Lib.hid (HE1.out.keep hb)
  have I2 := Lib.hid hi
  clear hi hb hA1 hb1 HE1 x0 x1 x2
  go_wp2_with fail
  refine (HP.out _ _ _ I2.out HE2.out).mono ?_
  rintro e w3 ⟨rfl, hb⟩
  have hA3 := hA2.keep hb
  have hb3 := ext_trans hb2 hb
  clear hb hA2 hb2 I2
  have x0 : w3.cell? ⟨w.heap.size, 0, none⟩ = some (.int .i64 r) := hA3.cell 0
  have x1 : w3.cell? ⟨w.heap.size, 1, none⟩ = some (.int .i64 wd) := hA3.cell 1
  have x2 : w3.cell? ⟨w.heap.size, 2, none⟩ = some (.slice A zs.length c) := hA3.cell 2
  go_wp2_with fail
  refine (HQ.out _ _ _ (HI.out.keep hb3)).mono ?_
  rintro e w4 ⟨rfl, hb⟩
  have hb4 := ext_trans hb3 hb
  clear hb hb3 hA3 x0 x1 x2
  go_wp2_with fail
  go_ret
  exact ⟨rfl, hb4⟩

theorem Parses (r wd : Int) (zs : List Int) (A : Option Addr) (c : Nat) (s : ByteArray) (w : World) (hI : Ints w A zs) (hN : A = none → zs = [] ∧ c = 0) (hlen : zs.length ≤ 17592186043904) (hev : EV w) :
    Calls Tryd.prog 3 #[.agg #[.int .i64 r, .int .i64 wd, .slice A zs.length c], .string s] w fun e w' => e = .returned (.bool true) ∧ Below w.heap.size w w' := by
  have hl : zs.length ≤ 20000000000000 := by omega
  have hs : s = ⟨s.data.toList.toArray⟩ := by apply ByteArray.ext; simp
  cases hok : okC r wd zs with
  | false => exact Parses_way r wd zs A c s 0 2 w hI hN hlen hev (fun A c w hI _ => Parse_no r wd zs A c s w hI hl hok) (fun A c w hI => by rw [hs]; exact rParse_no r wd zs A c _ w hI hl hok)
  | true =>
    by_cases h : ∃ row col : Nat, (row : Int) < r ∧ (col : Int) < wd ∧ seatT row col = s.data.toList
    · obtain ⟨row, col, h0, h1, h2⟩ := h
      rw [← h2] at hs
      subst hs
      exact Parses_way r wd zs A c _ _ 0 w hI hN hlen hev (fun A c w hI hev => Parse_seat r wd zs A c row col w hI hl hok hev h0 h1) (fun A c w hI => rParse_seat r wd zs A c row col w hI hl hok h0 h1)
    · have hno : ∀ row col : Nat, (row : Int) < r → (col : Int) < wd → seatT row col ≠ s.data.toList := fun row col h0 h1 h2 => h ⟨row, col, h0, h1, h2⟩
      exact Parses_way r wd zs A c s 0 140 w hI hN hlen hev (fun A c w hI hev => Parse_none r wd zs A c s w hI hl hok hev hno) (fun A c w hI => by rw [hs]; exact rParse_none r wd zs A c _ w hI hl hok hno)

end Go.Proofs.YtablpncipkbfhaaDoor.Cab
