/- The law of texts: the program's reading is the document's. -/
import Derived.Test.YtpoijhjjbmaedaaGreatDoorMan15
import Derived.Test.YtpoijhjjbmaedaaGreatDoorManA
set_option linter.unusedVariables false
set_option linter.unusedSimpArgs false
namespace Go.Proofs.YtpoijhjjbmaedaaGreatDoor.Man
open Go.RowKit

theorem trip_map {a b : List Ln} (h : a.map trip = b.map trip) : a = b := by
  induction a generalizing b with
  | nil => cases b with
    | nil => rfl
    | cons y b => simp at h
  | cons x a ih => cases b with
    | nil => simp at h
    | cons y b =>
      simp only [List.map_cons, List.cons.injEq] at h
      rw [trip_inj h.1, ih h.2]

set_option maxRecDepth 100000 in
set_option maxHeartbeats 2000000 in
theorem Parses_in (s : ByteArray) (w : World) (hw : Wd w) (hs : s.size ≤ 140737488355328) :
    Calls Tryz.prog 5 #[.string s] w fun e w' => e = .returned (.bool true) ∧ Below w.heap.size w w' := by
  have HW := Lib.hid hw
  have hs1 : (s.size : Int) ≤ 140737488355328 := by omega
  clear hw hs
  go_enter Tryz.func5, Tryz.ntmps5
  go_wp2_with fail
  refine (awake_in w HW.out).mono ?_
  rintro e w1 ⟨rfl, hb1⟩
  have HB1 := Lib.hid hb1
  clear hb1
  by_cases hbig : (20000 : Int) < (s.size : Int)
  · go_wp2_with fail
    go_ret
    exact ⟨rfl, HB1.out⟩
  · have hle : (s.size : Int) ≤ 20000 := by omega
    have HLE := Lib.hid (show s.size ≤ 20000 by omega)
    go_wp2_with fail
    refine (Parse_at s w1 (HW.out.keep HB1.out) HLE.out).mono ?_
    rintro e w2 ⟨hp, hb2⟩
    have HB2 := Lib.hid (ext_trans HB1.out hb2)
    clear hb2
    have href := parse_ref s
    rcases hp with ⟨ls, v, h1, rfl, h3⟩ | ⟨p, x, r, ls, h1, h2, h3, rfl⟩
    · have hsum := good_sum h1
      rw [← href] at hsum
      have HSUM := Lib.hid hsum
      obtain ⟨VA, vc, rfl⟩ := RowIn.any h3
      have HL := Lib.hid (RowIn.lines h3)
      have hbk := bulk_le ls
      have hlen := congrArg List.length h1
      have hnl := lineList_len s.size s
      have HLS := Lib.hid (show ls.length ≤ 20000 by
        simp only [List.length_map] at hlen
        have h7 : (linesB s).length ≤ s.size := hnl
        have := HLE.out; omega)
      clear h1 h3 hsum href hbk hlen hnl
      go_wp2_with fail
      refine (rParse_in s w2 HLE.out).mono ?_
      rintro e w3 ⟨hq, hb3⟩
      have HB3 := Lib.hid (ext_trans HB2.out hb3)
      have HL3 := Lib.hid (HL.out.keep hb3)
      clear hb3
      rcases hq with ⟨ls2, v2, k1, rfl, k3⟩ | ⟨k, k1, rfl⟩
      · rw [HSUM.out] at k1
        injection k1 with k1 _
        obtain rfl := trip_map k1
        obtain ⟨VA2, vc2, rfl⟩ := RowIn.any k3
        have HM3 := Lib.hid (RowIn.lines k3)
        clear k3 k1
        go_wp2_with fail
        refine (SameLines_in ls _ _ _ _ w3 HL3.out HM3.out (by have := HLS.out; omega)).mono ?_
        rintro e w4 ⟨rfl, hb4⟩
        go_wp2_with fail
        go_ret
        exact ⟨rfl, ext_trans HB3.out hb4⟩
      · rw [HSUM.out] at k1
        simp at k1
    · have hsum := bad_sum h1 h2 h3
      rw [← href] at hsum
      have HSUM := Lib.hid hsum
      have hpl : p.length ≤ 20000 := by
        have h4 := lineList_len s.size s
        have h5 : (linesB s).length ≤ s.size := h4
        rw [h1, List.length_append] at h5
        have := HLE.out; omega
      clear h1 h2 h3 hsum href
      go_wp2_with fail
      refine (rParse_in s w2 HLE.out).mono ?_
      rintro e w3 ⟨hq, hb3⟩
      have HB3 := Lib.hid (ext_trans HB2.out hb3)
      clear hb3
      rcases hq with ⟨ls2, v2, k1, rfl, k3⟩ | ⟨k, k1, rfl⟩
      · rw [HSUM.out] at k1
        simp at k1
      · rw [HSUM.out] at k1
        have hk : k = p.length := by simp at k1; omega
        subst hk
        go_wp2_with fail
        refine (SameLines_in [] none none 0 0 w3 (fun h => absurd rfl h) (fun h => absurd rfl h) (by decide)).mono ?_
        rintro e w4 ⟨rfl, hb4⟩
        go_wp2_with fail
        go_ret
        exact ⟨rfl, ext_trans HB3.out hb4⟩

end Go.Proofs.YtpoijhjjbmaedaaGreatDoor.Man
