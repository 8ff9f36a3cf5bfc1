/- The manifest's reference reads a line (Read). -/
import Derived.Test.YtpoijhjjbmaedaaGreatDoorMan13
import Derived.Test.YtpoijhjjbmaedaaGreatDoorCodB
set_option linter.unusedVariables false
set_option linter.unusedSimpArgs false
namespace Go.Proofs.YtpoijhjjbmaedaaGreatDoor.Man
open Go.RowKit

theorem results_cell_tmp2 {P : Program} {fn : Func} {p q r : Tmp} {ty : TypeId} (h : fn.results = #[.cell p ty, .tmp q, .tmp r]) (tmps : Array Value) {w : World} {ad : Addr} {v : Value}
    (hp : tmps.getD p undef = .pointer (some ad)) (hl : (loadVar ty ad).run P w = .ok v w) : (results fn tmps).run P w = .ok (.tuple #[v, tmps.getD q undef, tmps.getD r undef]) w := by
  have hp' : tmps[p]?.getD undef = .pointer (some ad) := by simpa using hp
  simp [results, h, hp', asAddr, hl]
theorem rCodParse (s : ByteArray) (w : World) :
    Calls Tryz.prog 102 #[.string s] w fun e w' => (∃ i j n : Int, e = .returned (.tuple #[.int .u32 i, .int .i64 j, .int .i64 n]) ∧ (n == 0) = okB s.data.toList) ∧ Below w.heap.size w w' := by
  have h := Cod.rParse s (Cod.lead s 8) (Cod.lead_le s 8) (Cod.lead_good s 8) (Cod.lead_bad s 8) w
  refine h.mono ?_
  rintro e w' ⟨rfl, hb⟩
  refine ⟨⟨_, _, _, rfl, ?_⟩, hb⟩
  unfold okB Cod.answer
  rw [mk_data]
  rw [Bool.eq_iff_iff, beq_iff_eq, beq_iff_eq]
  omega
/-- the result's own block, and what was there -/
abbrev OwnR (w : World) (vb : Nat) (W : World) : Prop := Arr W vb 74 #[.string ⟨#[]⟩, .string ⟨#[]⟩, .bool false] ∧ Below vb w W
theorem OwnR.keep {w W W' : World} {vb : Nat} (h : OwnR w vb W) (hb : Below W.heap.size W W') : OwnR w vb W' := ⟨h.1.keep hb, h.2.trans (hb.mono (Nat.le_of_lt h.1.lt))⟩
theorem OwnR.only {w W W' : World} {vb : Nat} (hv : w.heap.size = vb) (h : OwnR w vb W) (hg : W.grownBy W' (some vb)) : Below w.heap.size w W' := by
  subst hv
  exact h.2.grown hg (Nat.le_of_lt h.1.lt) (fun k hk => by injection hk with hk; omega)
/-- what the reference answers of a line at a place -/
def ReadR (s : ByteArray) (p : Nat) (w : World) (vb : Nat) (e : Ending) (w' : World) : Prop :=
  (∃ (x : Ln) (nx : Int) (ok : Bool), e = .returned (.tuple #[.agg (lineL x).toArray, .int .i64 nx, .bool ok]) ∧ match readR okA okB (s.data.toList.drop p) with
    | none => ok = false
    | some (y, r) => ok = true ∧ trip x = y ∧ nx = ((s.size - r.length : Nat) : Int)) ∧ Below vb w w'
theorem ReadR.no {s : ByteArray} {p : Nat} {w w' : World} {vb : Nat} (h : readR okA okB (s.data.toList.drop p) = none) (hb : Below vb w w') : ReadR s p w vb (.returned (.tuple #[.agg #[.string ⟨#[]⟩, .string ⟨#[]⟩, .bool false], .int .i64 0, .bool false])) w' :=
  ⟨⟨⟨⟨#[]⟩, ⟨#[]⟩, false⟩, 0, false, rfl, by rw [h]⟩, hb⟩
theorem ReadR.yes {s : ByteArray} {p : Nat} {w w' : World} {vb : Nat} {a b h : List UInt8} {r : List UInt8} {nx : Int} (hr : readR okA okB (s.data.toList.drop p) = some ((a, b, h == heldW), r)) (hn : nx = ((s.size - r.length : Nat) : Int)) (hb : Below vb w w') :
    ReadR s p w vb (.returned (.tuple #[.agg #[.string ⟨a.toArray⟩, .string ⟨b.toArray⟩, .bool (h == heldW)], .int .i64 nx, .bool true])) w' :=
  ⟨⟨⟨⟨a.toArray⟩, ⟨b.toArray⟩, h == heldW⟩, nx, true, rfl, by rw [hr]; exact ⟨rfl, rfl, hn⟩⟩, hb⟩
theorem upto_drop {s : List UInt8} {p : Nat} {c : UInt8} {t r : List UInt8} (h : upto c (s.drop p) = some (t, r)) : r = s.drop (p + t.length + 1) ∧ p + t.length + 1 ≤ s.length ∧ r.length = s.length - (p + t.length + 1) := by
  have h1 := (upto_some.1 h).1
  have hl := congrArg List.length h1
  rw [List.length_drop, List.length_append, List.length_cons] at hl
  refine ⟨?_, by omega, by omega⟩
  rw [Nat.add_assoc, ← List.drop_drop, h1, ← List.drop_drop, List.drop_left]
  rfl
theorem arr_list (l : List UInt8) : (⟨l.toArray⟩ : ByteArray).data.toList = l := rfl

set_option maxRecDepth 100000 in
set_option maxHeartbeats 4000000 in
theorem Read_in (s : ByteArray) (p : Nat) (w : World) (hs : s.size ≤ 20000) (hp : p ≤ s.size) :
    Calls Tryz.prog 60 #[.string s, .int .i64 (p : Int)] w (ReadR s p w w.heap.size) := by
  have HS := Lib.hid hs
  have HP := Lib.hid hp
  have HLEN := Lib.hid (Lib.size_eq s)
  clear hs hp
  go_enter Tryz.func60, Tryz.ntmps60
  go_wp2_with fail
  obtain ⟨w1, hw1⟩ : ∃ w1, w.alloc (.cells #[.string ⟨#[]⟩, .string ⟨#[]⟩, .bool false] 74) = w1 := ⟨_, rfl⟩
  have h1 : OwnR w w.heap.size w1 := by rw [← hw1]; exact ⟨Arr.fresh _ _ _, ext_alloc (Below.refl _ _) _⟩
  rw [hw1]
  obtain ⟨vb, hvb⟩ : ∃ vb, w.heap.size = vb := ⟨_, rfl⟩
  rw [hvb] at h1 ⊢
  have H1 := Lib.hid h1
  have HVB := Lib.hid hvb
  clear hw1 hvb h1
  cases hu : upto 32 (s.data.toList.drop p) with
  | none =>
    have HNO := Lib.hid (show readR okA okB (s.data.toList.drop p) = none by unfold readR; rw [hu])
    have HU := Lib.hid hu
    clear hu
    refine (until_no s p 32 w1 HS.out HP.out HU.out).mono ?_
    rintro e w2 ⟨rfl, hb2⟩
    have hS := OwnR.keep H1.out hb2
    clear hb2
    go_wp2_with (refine wpList_store_blk rfl 74 _ _ rfl vb 74 _ #[.string ⟨#[]⟩, .string ⟨#[]⟩, .bool false] hS.1 rfl rfl rfl line_info_size (by simp [Value.oneCell']) ?_; intro wz hAz hgz hsz; have HAZ := Lib.hid hAz; have HGZ := Lib.hid hgz; clear hAz hgz hsz)
    exact bodyPost_ret (results_cell_tmp2 Tryz.results60 _ (by rfl) (run_load_blk 74 HAZ.out _ Tryz.underlying74 rfl line_info_size)) rfl (ReadR.no HNO.out (OwnR.only HVB.out hS HGZ.out))
  | some q =>
    obtain ⟨a, r1⟩ := q
    have HU := Lib.hid hu
    clear hu
    refine (until_yes s p 32 a r1 w1 HS.out HU.out).mono ?_
    rintro e w2 ⟨rfl, hb2⟩
    have hS := OwnR.keep H1.out hb2
    obtain ⟨d1, d2, d3⟩ := upto_drop HU.out
    have n1 : ¬ ((p : Int) + (a.length : Int) + 1) < 0 := by omega
    have n1b : (decide (((p : Int) + (a.length : Int) + 1) < 0)) = false := by simpa using n1
    have HD1 := Lib.hid d1; have HD2 := Lib.hid d2
    clear hb2 d1 d2 d3
    go_wp2_with fail
    refine (form_in a _).mono ?_
    rintro e w3 ⟨rfl, hb3⟩
    have hS3 := OwnR.keep hS hb3
    clear hS hb3
    cases ha : okA a with
    | false =>
      have HNO := Lib.hid (show readR okA okB (s.data.toList.drop p) = none by unfold readR; rw [HU.out]; simp only [ha]; rfl)
      go_wp2_with (refine wpList_store_blk rfl 74 _ _ rfl vb 74 _ #[.string ⟨#[]⟩, .string ⟨#[]⟩, .bool false] hS3.1 rfl rfl rfl line_info_size (by simp [Value.oneCell']) ?_; intro wz hAz hgz hsz; have HAZ := Lib.hid hAz; have HGZ := Lib.hid hgz; clear hAz hgz hsz)
      exact bodyPost_ret (results_cell_tmp2 Tryz.results60 _ (by rfl) (run_load_blk 74 HAZ.out _ Tryz.underlying74 rfl line_info_size)) rfl (ReadR.no HNO.out (OwnR.only HVB.out hS3 HGZ.out))
    | true =>
      go_wp2_with fail
      cases hu2 : upto 32 r1 with
      | none =>
        have HNO := Lib.hid (show readR okA okB (s.data.toList.drop p) = none by unfold readR; rw [HU.out]; simp only [ha]; rw [hu2]; rfl)
        rw [HD1.out] at hu2
        have HU2 := Lib.hid hu2
        clear hu2
        have hun := until_no s (p + a.length + 1) 32 w3 HS.out (by rw [HLEN.out]; exact HD2.out) HU2.out
        rw [show ((p + a.length + 1 : Nat) : Int) = (p : Int) + (a.length : Int) + 1 by omega] at hun
        refine hun.mono ?_
        rintro e w4 ⟨rfl, hb4⟩
        have hS4 := OwnR.keep hS3 hb4
        clear hS3 hb4 hun
        go_wp2_with (refine wpList_store_blk rfl 74 _ _ rfl vb 74 _ #[.string ⟨#[]⟩, .string ⟨#[]⟩, .bool false] hS4.1 rfl rfl rfl line_info_size (by simp [Value.oneCell']) ?_; intro wz hAz hgz hsz; have HAZ := Lib.hid hAz; have HGZ := Lib.hid hgz; clear hAz hgz hsz)
        exact bodyPost_ret (results_cell_tmp2 Tryz.results60 _ (by rfl) (run_load_blk 74 HAZ.out _ Tryz.underlying74 rfl line_info_size)) rfl (ReadR.no HNO.out (OwnR.only HVB.out hS4 HGZ.out))
      | some q2 =>
        obtain ⟨b, r2⟩ := q2
        have HUB := Lib.hid hu2
        rw [HD1.out] at hu2
        have hun := until_yes s (p + a.length + 1) 32 b r2 w3 HS.out hu2
        obtain ⟨d4, d5, d6⟩ := upto_drop hu2
        rw [show ((p + a.length + 1 : Nat) : Int) = (p : Int) + (a.length : Int) + 1 by omega] at hun
        have HD4 := Lib.hid d4; have HD5 := Lib.hid d5
        clear d4 d5 d6 hu2
        refine hun.mono ?_
        rintro e w4 ⟨rfl, hb4⟩
        have hS4 := OwnR.keep hS3 hb4
        clear hS3 hb4 hun
        obtain ⟨Q, hQ⟩ : ∃ Q : Nat, p + a.length + 1 + b.length + 1 = Q := ⟨_, rfl⟩
        have hQi : (p : Int) + (a.length : Int) + 1 + (b.length : Int) + 1 = (Q : Int) := by omega
        rw [hQi]
        have n2 : ¬ (Q : Int) < 0 := by omega
        have HQ := Lib.hid hQ
        clear hQ hQi
        go_wp2_with fail
        refine (rCodParse ⟨b.toArray⟩ w4).mono ?_
        rintro e w5 ⟨⟨ci, cj, ce, rfl, hce⟩, hb5⟩
        rw [arr_list] at hce
        have hS5 := OwnR.keep hS4 hb5
        clear hS4 hb5
        go_wp2_with fail
        cases hu3 : upto 10 r2 with
        | none =>
          have HNO := Lib.hid (show readR okA okB (s.data.toList.drop p) = none by unfold readR; rw [HU.out]; simp only [ha]; rw [HUB.out]; simp only [hu3]; rfl)
          rw [HD4.out, HQ.out] at hu3
          have HU3 := Lib.hid hu3
          clear hu3
          refine (until_no s Q 10 w5 HS.out (by rw [HLEN.out]; rw [← HQ.out]; exact HD5.out) HU3.out).mono ?_
          rintro e w6 ⟨rfl, hb6⟩
          have hS6 := OwnR.keep hS5 hb6
          clear hS5 hb6
          cases hb : okB b with
          | false =>
            rw [hb] at hce
            have hce' : ¬ ce = 0 := by simpa using hce
            go_wp2_with (refine wpList_store_blk rfl 74 _ _ rfl vb 74 _ #[.string ⟨#[]⟩, .string ⟨#[]⟩, .bool false] hS6.1 rfl rfl rfl line_info_size (by simp [Value.oneCell']) ?_; intro wz hAz hgz hsz; have HAZ := Lib.hid hAz; have HGZ := Lib.hid hgz; clear hAz hgz hsz)
            exact bodyPost_ret (results_cell_tmp2 Tryz.results60 _ (by rfl) (run_load_blk 74 HAZ.out _ Tryz.underlying74 rfl line_info_size)) rfl (ReadR.no HNO.out (OwnR.only HVB.out hS6 HGZ.out))
          | true =>
            rw [hb] at hce
            obtain rfl : ce = 0 := by simpa using hce
            go_wp2_with (refine wpList_store_blk rfl 74 _ _ rfl vb 74 _ #[.string ⟨#[]⟩, .string ⟨#[]⟩, .bool false] hS6.1 rfl rfl rfl line_info_size (by simp [Value.oneCell']) ?_; intro wz hAz hgz hsz; have HAZ := Lib.hid hAz; have HGZ := Lib.hid hgz; clear hAz hgz hsz)
            exact bodyPost_ret (results_cell_tmp2 Tryz.results60 _ (by rfl) (run_load_blk 74 HAZ.out _ Tryz.underlying74 rfl line_info_size)) rfl (ReadR.no HNO.out (OwnR.only HVB.out hS6 HGZ.out))
        | some q3 =>
          obtain ⟨h, r3⟩ := q3
          have HUC := Lib.hid hu3
          rw [HD4.out, HQ.out] at hu3
          have hun := until_yes s Q 10 h r3 w5 HS.out hu3
          obtain ⟨d7, d8, d9⟩ := upto_drop hu3
          have HD9 := Lib.hid d9; have HD8 := Lib.hid d8
          clear d7 d8 d9 hu3
          refine hun.mono ?_
          rintro e w6 ⟨rfl, hb6⟩
          have hS6 := OwnR.keep hS5 hb6
          clear hS5 hb6 hun
          have hX : (⟨h.toArray⟩ : ByteArray).data.toList = h := rfl
          generalize (⟨h.toArray⟩ : ByteArray) = X at hX ⊢
          subst hX
          have hval : readR okA okB (s.data.toList.drop p) = if okB b && how X.data.toList then some ((a, b, X.data.toList == heldW), r3) else none := by
            unfold readR; rw [HU.out]; simp only [ha, if_true]; rw [HUB.out]; simp only [HUC.out]
          have n3 : ¬ (Q : Int) + (X.size : Int) + 1 < 0 := by omega
          have n3b : decide ((Q : Int) + (X.size : Int) + 1 < 0) = false := decide_eq_false n3
          have n2b : decide ((Q : Int) < 0) = false := decide_eq_false (by omega)
          have hfin : (Q : Int) + (X.data.toList.length : Int) + 1 = ((s.size - r3.length : Nat) : Int) := by
            have h8 := HD8.out; have h9 := HD9.out
            rw [← HLEN.out] at h8 h9
            omega
          have HFIN := Lib.hid hfin
          clear hfin
          cases hb : okB b with
          | false =>
            rw [hb] at hce hval
            have hce' : ¬ ce = 0 := by simpa using hce
            have HNO := Lib.hid (show readR okA okB (s.data.toList.drop p) = none from hval)
            clear hval
            go_wp2_with (refine wpList_store_blk rfl 74 _ _ rfl vb 74 _ #[.string ⟨#[]⟩, .string ⟨#[]⟩, .bool false] hS6.1 rfl rfl rfl line_info_size (by simp [Value.oneCell']) ?_; intro wz hAz hgz hsz; have HAZ := Lib.hid hAz; have HGZ := Lib.hid hgz; clear hAz hgz hsz)
            exact bodyPost_ret (results_cell_tmp2 Tryz.results60 _ (by rfl) (run_load_blk 74 HAZ.out _ Tryz.underlying74 rfl line_info_size)) rfl (ReadR.no HNO.out (OwnR.only HVB.out hS6 HGZ.out))
          | true =>
            rw [hb] at hce hval
            obtain rfl : ce = 0 := by simpa using hce
            cases hh : (X.data.toList == heldW) with
            | true =>
              have q1 : X.toList = [104, 101, 108, 100] := held_yes (h := X) hh
              have HYES := Lib.hid (show readR okA okB (s.data.toList.drop p) = some ((a, b, X.data.toList == heldW), r3) by rw [hval]; unfold how; rw [hh]; rfl)
              clear hval
              go_wp2_with (refine wpList_store_blk rfl 74 _ _ rfl vb 74 _ #[.string ⟨a.toArray⟩, .string ⟨b.toArray⟩, .bool true] hS6.1 rfl rfl rfl line_info_size (by simp [Value.oneCell']) ?_; intro wz hAz hgz hsz; have HAZ := Lib.hid hAz; have HGZ := Lib.hid hgz; clear hAz hgz hsz)
              have hY := ReadR.yes (w := w) HYES.out HFIN.out (OwnR.only HVB.out hS6 HGZ.out)
              rw [hh] at hY
              exact bodyPost_ret (results_cell_tmp2 Tryz.results60 _ (by rfl) (run_load_blk 74 HAZ.out _ Tryz.underlying74 rfl line_info_size)) rfl hY
            | false =>
              have q1 := held_no (h := X) hh
              have q3 := beq_no q1
              cases hc : (X.data.toList == confW) with
              | true =>
                have q2 := conf_yes (h := X) hc
                have HYES := Lib.hid (show readR okA okB (s.data.toList.drop p) = some ((a, b, X.data.toList == heldW), r3) by rw [hval]; unfold how; rw [hh, hc]; rfl)
                clear hval
                go_wp2_with (refine wpList_store_blk rfl 74 _ _ rfl vb 74 _ #[.string ⟨a.toArray⟩, .string ⟨b.toArray⟩, .bool false] hS6.1 rfl rfl rfl line_info_size (by simp [Value.oneCell']) ?_; intro wz hAz hgz hsz; have HAZ := Lib.hid hAz; have HGZ := Lib.hid hgz; clear hAz hgz hsz)
                have hY := ReadR.yes (w := w) HYES.out HFIN.out (OwnR.only HVB.out hS6 HGZ.out)
                rw [hh] at hY
                exact bodyPost_ret (results_cell_tmp2 Tryz.results60 _ (by rfl) (run_load_blk 74 HAZ.out _ Tryz.underlying74 rfl line_info_size)) rfl hY
              | false =>
                have q2 := conf_no (h := X) hc
                have q4 := beq_no q2
                have HNO := Lib.hid (show readR okA okB (s.data.toList.drop p) = none by rw [hval]; unfold how; rw [hh, hc]; rfl)
                clear hval
                go_wp2_with (refine wpList_store_blk rfl 74 _ _ rfl vb 74 _ #[.string ⟨#[]⟩, .string ⟨#[]⟩, .bool false] hS6.1 rfl rfl rfl line_info_size (by simp [Value.oneCell']) ?_; intro wz hAz hgz hsz; have HAZ := Lib.hid hAz; have HGZ := Lib.hid hgz; clear hAz hgz hsz)
                exact bodyPost_ret (results_cell_tmp2 Tryz.results60 _ (by rfl) (run_load_blk 74 HAZ.out _ Tryz.underlying74 rfl line_info_size)) rfl (ReadR.no HNO.out (OwnR.only HVB.out hS6 HGZ.out))

end Go.Proofs.YtpoijhjjbmaedaaGreatDoor.Man
