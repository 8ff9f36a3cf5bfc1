/- The walks of the laws of the codes, first part: awake, CodesTexts, CodesParses, CodesNears. -/
import Derived.Test.YtmmmehllfokjgaaDoorCod5
import Derived.Test.YtmmmehllfokjgaaDoorCodAns
namespace Go.Proofs.YtmmmehllfokjgaaDoor.Cod
open Go.RowKit

theorem Parse_any (s : ByteArray) (w : World) (ht : Tab w) :
    Calls Tryd.prog 13 #[.string s] w fun e w' => e = .returned (.tuple #[.int .u32 ((answer s).1 : Nat), .int .i64 ((answer s).2.1 : Nat), .int .i64 ((answer s).2.2 : Nat)]) ∧ w = w' := by
  unfold answer
  exact Parse s (lead s 8) (lead_le s 8) (lead_good s 8) (lead_bad s 8) w ht
theorem rParse_any (s : ByteArray) (w : World) :
    Calls Tryd.prog 14 #[.string s] w fun e w' => e = .returned (.tuple #[.int .u32 ((answer s).1 : Nat), .int .i64 ((answer s).2.1 : Nat), .int .i64 ((answer s).2.2 : Nat)]) ∧ Below w.heap.size w w' := by
  unfold answer
  exact rParse s (lead s 8) (lead_le s 8) (lead_good s 8) (lead_bad s 8) w
/-- at a text of which the answer is known -/
theorem Parse_at (s : ByteArray) (a b c : Nat) (h : answer s = (a, b, c)) (w : World) (ht : Tab w) :
    Calls Tryd.prog 13 #[.string s] w fun e w' => e = .returned (.tuple #[.int .u32 (a : Int), .int .i64 (b : Int), .int .i64 (c : Int)]) ∧ w = w' := by
  have h1 := Parse_any s w ht
  rw [h] at h1
  exact h1
theorem Text_at (n : Nat) (hn : n < 4294967296) (l : List UInt8) (h : txt n = l) (w : World) (ht : Tab w) :
    Calls Tryd.prog 10 #[.int .u32 (n : Int)] w fun e w' => e = .returned (.string ⟨l.toArray⟩) ∧ Below w.heap.size w w' := h ▸ Text n hn w ht
theorem Near_at (a b : Nat) (ha : a < 4294967296) (hb : b < 4294967296) (c : Nat) (h : cnt (wor a) (wor b) 8 = c) (w : World) (ht : Tab w) :
    Calls Tryd.prog 15 #[.int .u32 (a : Int), .int .u32 (b : Int)] w fun e w' => e = .returned (.int .i64 (c : Int)) ∧ Below w.heap.size w w' := h ▸ Near a b ha hb w ht

-- awake
set_option maxRecDepth 100000 in
set_option maxHeartbeats 1000000 in
theorem awake (w : World) (ht : Tab w) :
    Calls Tryd.prog 12 #[] w fun e w' => e = .returned (.bool true) ∧ Below w.heap.size w w' := by
  have HT := Lib.hid ht; clear ht
  go_enter Tryd.func12, Tryd.ntmps12
  go_wp2_with fail
  refine (Parse_at ⟨#[50, 50, 50, 89, 74, 76, 50, 50]⟩ 1000000 0 0 (by decide +kernel) _ HT.out).mono ?_
  rintro e w1 ⟨rfl, rfl⟩
  go_wp2_with fail
  refine (Parse_at ⟨#[50, 50, 50, 50, 50, 50, 54, 52]⟩ 0 7 150 (by decide +kernel) _ HT.out).mono ?_
  rintro e w1 ⟨rfl, rfl⟩
  go_wp2_with fail
  refine (Text_at 1 (by omega) [50, 50, 50, 50, 50, 50, 51, 52] (by decide +kernel) _ HT.out).mono ?_
  rintro e w1 ⟨rfl, hb1⟩
  have HT1 := Lib.hid (HT.out.keep hb1)
  go_wp2_with fail
  refine (Text_at 4294967295 (by omega) [53, 90, 90, 90, 90, 90, 90, 50] (by decide +kernel) _ HT1.out).mono ?_
  rintro e w2 ⟨rfl, hb2⟩
  have HT2 := Lib.hid (HT1.out.keep hb2)
  go_wp2_with fail
  refine (Near_at 1 32 (by omega) (by omega) 3 (by decide +kernel) _ HT2.out).mono ?_
  rintro e w3 ⟨rfl, hb3⟩
  go_wp2_with fail
  go_ret
  exact ⟨rfl, ext_trans (ext_trans hb1 hb2) hb3⟩

-- CodesTexts
set_option maxHeartbeats 1000000 in
theorem Texts (n : Nat) (hn : n < 4294967296) (w : World) (ht : Tab w) :
    Calls Tryd.prog 3 #[.int .u32 (n : Int)] w fun e w' => e = .returned (.bool true) ∧ Below w.heap.size w w' := by
  have HT := Lib.hid ht; clear ht
  go_enter Tryd.func3, Tryd.ntmps3
  go_wp2_with fail
  refine (Text n hn _ HT.out).mono ?_
  rintro e w1 ⟨rfl, hb1⟩
  have HT1 := Lib.hid (HT.out.keep hb1)
  go_wp2_with fail
  refine (rText n hn _).mono ?_
  rintro e w2 ⟨rfl, hb2⟩
  have HT2 := Lib.hid (HT1.out.keep hb2)
  go_wp2_with fail
  refine (awake _ HT2.out).mono ?_
  rintro e w3 ⟨rfl, hb3⟩
  go_wp2_with fail
  go_ret
  exact ⟨rfl, ext_trans (ext_trans hb1 hb2) hb3⟩

-- CodesParses
set_option maxHeartbeats 1000000 in
theorem Parses (s : ByteArray) (w : World) (ht : Tab w) :
    Calls Tryd.prog 4 #[.string s] w fun e w' => e = .returned (.bool true) ∧ Below w.heap.size w w' := by
  have HT := Lib.hid ht; clear ht
  go_enter Tryd.func4, Tryd.ntmps4
  go_wp2_with fail
  refine (Parse_any s _ HT.out).mono ?_
  rintro e w1 ⟨rfl, rfl⟩
  go_wp2_with fail
  refine (rParse_any s _).mono ?_
  rintro e w2 ⟨rfl, hb2⟩
  have HT2 := Lib.hid (HT.out.keep hb2)
  go_wp2_with fail
  refine (awake _ HT2.out).mono ?_
  rintro e w3 ⟨rfl, hb3⟩
  go_wp2_with fail
  go_ret
  exact ⟨rfl, ext_trans hb2 hb3⟩

-- CodesNears
set_option maxHeartbeats 1000000 in
theorem Nears (a b : Nat) (ha : a < 4294967296) (hb : b < 4294967296) (w : World) (ht : Tab w) :
    Calls Tryd.prog 5 #[.int .u32 (a : Int), .int .u32 (b : Int)] w fun e w' => e = .returned (.bool true) ∧ Below w.heap.size w w' := by
  have HT := Lib.hid ht; clear ht
  go_enter Tryd.func5, Tryd.ntmps5
  go_wp2_with fail
  refine (Near a b ha hb _ HT.out).mono ?_
  rintro e w1 ⟨rfl, hb1⟩
  have HT1 := Lib.hid (HT.out.keep hb1)
  go_wp2_with fail
  refine (rNear a b ha hb _).mono ?_
  rintro e w2 ⟨rfl, hb2⟩
  have HT2 := Lib.hid (HT1.out.keep hb2)
  go_wp2_with fail
  refine (awake _ HT2.out).mono ?_
  rintro e w3 ⟨rfl, hb3⟩
  go_wp2_with fail
  go_ret
  exact ⟨rfl, ext_trans (ext_trans hb1 hb2) hb3⟩

end Go.Proofs.YtmmmehllfokjgaaDoor.Cod
