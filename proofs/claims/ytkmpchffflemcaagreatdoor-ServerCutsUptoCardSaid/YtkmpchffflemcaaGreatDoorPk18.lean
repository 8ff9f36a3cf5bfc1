/- Packed: Kt6, Kt7. -/
import Derived.Test.YtkmpchffflemcaaGreatDoorPk16
import Derived.Test.YtkmpchffflemcaaGreatDoorPk17
import Derived.Laws.AppendOwnNone
import Derived.Test.YtkmpchffflemcaaGreatDoorPk14
set_option linter.unusedVariables false
set_option linter.unusedSimpArgs false
/- ApartRows of one list of rows. -/
section
set_option linter.unusedVariables false
set_option linter.unusedSimpArgs false
namespace Go.Proofs.YtkmpchffflemcaaGreatDoor.Fl
open Go.RowKit
open Go.Proofs.YtkmpchffflemcaaGreatDoor.En (By RowsAt)
open Go.Proofs.YtkmpchffflemcaaGreatDoor.Oc (Bs CapAt CapB)

/-- where a row's bytes are to be marked: an empty one has none -/
def adR (L : List By) (A : Nat → Option Addr) (q : Nat) : Option Addr := if L.getD q [] = [] then none else A q
theorem lists_bytes {base : Nat} {w : World} {v : Value} {L : List By} {A : Nat → Option Addr} {C : Nat → Nat} (h : RowsAt base w v L A C) (hn : L.length ≤ 600000) (hlen : ∀ i, (L.getD i []).length ≤ 600000) {w1 : World} (hb : Below w.heap.size w w1) {g2 : Nat} (hg2 : w.heap.size ≤ g2) (hl2 : g2 < w1.heap.size) (hc : ∀ q, q < L.length → w1.cell? ⟨g2, q, none⟩ = some (.slice (A q) (L.getD q []).length (C q))) :
    Lists 5 ElB w1 g2 L.length (adR L A) A (fun i => (L.getD i []).length) C := by
  have hblk : ∀ q g, q < L.length → At (adR L A) q g → L.getD q [] ≠ [] ∧ A q = some ⟨g, 0, none⟩ ∧ CapB w g (L.getD q []) (C q) := fun q g hq hg => by
    unfold At adR at hg
    split at hg
    · cases hg
    · rename_i hne
      obtain ⟨g', e, hcb, _⟩ := h.blk q hq hne
      rw [hg] at e
      injection e with e
      injection e with e
      subst e
      exact ⟨hne, hg, hcb⟩
  refine ⟨hc, fun q hq => ?_, fun p q g hp hq h1 h2 => ?_, fun ⟨q, hq, hx⟩ => ?_, hl2, hn, fun q hq => ⟨?_, hlen q⟩⟩
  · by_cases hne : L.getD q [] = []
    · refine .inl ⟨by simp only [adR, if_pos hne], by show (L.getD q []).length = 0; rw [hne]; rfl, ?_⟩
      rcases h.caps q hq with ⟨_, h0⟩ | ⟨h0, _⟩
      · exact h0
      · exact absurd hne h0
    · obtain ⟨g, e, hcb, _⟩ := h.blk q hq hne
      refine .inr ⟨g, by unfold At; simp only [adR, if_neg hne]; exact e, e, ?_⟩
      obtain ⟨cur, q1, q2, _⟩ := hcb.keep hb
      exact ⟨cur, q1, q2, fun i hi => absurd hi (Nat.not_lt_zero _)⟩
  · obtain ⟨a1, a2, _⟩ := hblk p g hp h1
    obtain ⟨b1, b2, _⟩ := hblk q g hq h2
    exact h.dist p q hp hq a1 b1 (a2.trans b2.symm)
  · have := (hblk q g2 hq hx).2.2.lt
    omega
  · rcases h.caps q hq with ⟨h0, _⟩ | ⟨_, g, _, h1⟩
    · show (L.getD q []).length ≤ C q; rw [h0]; exact Nat.zero_le _
    · exact h1.len
theorem adR_base {base : Nat} {w : World} {v : Value} {L : List By} {A : Nat → Option Addr} {C : Nat → Nat} (h : RowsAt base w v L A C) {k : Nat} (hk : inG (adR L A) L.length k) : base ≤ k ∧ v.ownBlock ≠ some k ∧ k < w.heap.size ∧ ∃ cs, Arr w k 5 cs := by
  obtain ⟨q, hq, hx⟩ := hk
  unfold At adR at hx
  split at hx
  · cases hx
  · rename_i hne
    obtain ⟨g, e, hcb, _⟩ := h.blk q hq hne
    rw [hx] at e
    injection e with e
    injection e with e
    subst e
    obtain ⟨cs, hcs, _⟩ := hcb
    exact ⟨(h.each q hq hne k hx).1, (h.each q hq hne k hx).2, hcs.lt, cs, hcs⟩
theorem lists_rows {base : Nat} {w : World} {v : Value} {L : List By} {A : Nat → Option Addr} {C : Nat → Nat} (h : RowsAt base w v L A C) (hn : L.length ≤ 600000) {hd : Nat} (hH : Arr w hd 24 #[v]) :
    ∃ AD N c, v = .slice (AD 0) (N 0) (c 0) ∧ Lists 22 ElR w hd 1 AD AD N c ∧ ∀ k, inG AD 1 k → v.ownBlock = some k := by
  have hx : ∀ q : Nat, q < 1 → w.cell? ⟨hd, q, none⟩ = some v := fun q hq => by
    obtain rfl : q = 0 := by omega
    exact hH.cell 0
  rcases h.row.own.2 with ⟨hv, h0⟩ | ⟨g, cap, cur, hv, _, ha, h1, h2, h3, _⟩
  · subst hv
    exact ⟨fun _ => none, fun _ => 0, fun _ => 0, rfl, ⟨hx, fun q _ => .inl ⟨rfl, rfl, rfl⟩, fun p q g _ _ h1 => (by cases h1), fun ⟨q, _, h1⟩ => (by cases h1), hH.lt, by omega, fun q _ => ⟨Nat.le_refl _, by omega⟩⟩, fun k ⟨q, _, h1⟩ => (by cases h1)⟩
  · subst hv
    refine ⟨fun _ => some ⟨g, 0, none⟩, fun _ => L.length, fun _ => cap, rfl, ⟨hx, fun q _ => .inr ⟨g, rfl, rfl, cur, ha, by rw [h3, Nat.mul_one], fun i hi => absurd hi (Nat.not_lt_zero _)⟩, fun p q _ hp hq _ _ => by omega, fun ⟨q, _, h1⟩ => ?_, hH.lt, by omega, fun q _ => ⟨h1, hn⟩⟩, fun k ⟨q, _, h1⟩ => ?_⟩
    · have h1' : some (⟨g, 0, none⟩ : Addr) = some ⟨hd, 0, none⟩ := h1
      injection h1' with h1'
      injection h1' with h1'
      subst h1'
      unfold Arr at hH
      rw [ha] at hH
      injection hH with hH
      injection hH with _ hH _
      exact absurd hH (by decide)
    · have h1' : some (⟨g, 0, none⟩ : Addr) = some ⟨k, 0, none⟩ := h1
      injection h1' with h1'
      injection h1' with h1'
      subst h1'
      rfl
theorem rows_hdrs {base : Nat} {w : World} {v : Value} {L : List By} {A : Nat → Option Addr} {C : Nat → Nat} (h : RowsAt base w v L A C) {Av : Option Addr} {cv : Nat} (hv : v = .slice Av L.length cv) (hpos : 0 < L.length) : ∃ g, Av = some ⟨g, 0, none⟩ ∧ ∀ (j : Nat) (u : Value), (hdrs A (fun i => (L.getD i []).length) C L.length)[j]? = some u → w.cell? ((⟨g, 0, none⟩ : Addr).add j) = some u := by
  subst hv
  obtain ⟨g, cap, e, _, _, _, hg⟩ := h.row.form hpos
  injection e with e1 _ e2
  subst e1 e2
  refine ⟨g, rfl, fun j u hu => ?_⟩
  have hj : j < L.length := by
    have := (List.getElem?_eq_some_iff.1 hu).1
    simpa [hdrs] using this
  rw [hdrs_at hj] at hu
  injection hu with hu
  subst hu
  rw [add_zero_off]
  have := h.row.range (i := j) (fun i => rfl) hj 0 (.slice (A j) (L.getD j []).length (C j)) (by simp)
  simpa using this
theorem hdrs_len (A : Nat → Option Addr) (N C : Nat → Nat) (j : Nat) : (hdrs A N C j).length = j := by simp [hdrs]
theorem hdrs_one (A : Nat → Option Addr) (N C : Nat → Nat) (j : Nat) : ∀ u ∈ hdrs A N C j, u.oneCell' = true := by
  intro u hu
  obtain ⟨q, _, rfl⟩ := List.mem_map.1 hu
  rfl
set_option maxRecDepth 100000 in
set_option maxHeartbeats 4000000 in
theorem ApartRows1 {base : Nat} {w : World} {v : Value} {L : List By} {A : Nat → Option Addr} {C : Nat → Nat} (h : RowsAt base w v L A C) (hb : base ≤ w.heap.size) (hn : L.length ≤ 600000) (hlen : ∀ i, (L.getD i []).length ≤ 600000) {hd : Nat} (hH : Arr w hd 24 #[v]) (hc : Nat) :
    Calls Tryz.prog 9 #[.slice (some ⟨hd, 0, none⟩) 1 hc] w fun e w' => e = .returned (.bool true) ∧ Tch (fun k => base ≤ k) w w' := by
  obtain ⟨i1, hi1, hz01, hz11, hz21⟩ := info_parts rows_info
  obtain ⟨Av, cv, rfl⟩ := h.row.any
  have x0 : w.cell? ⟨hd, 0, none⟩ = some (.slice Av L.length cv) := hH.cell 0
  have HR := Lib.hid h; have HH := Lib.hid hH; have HBS := Lib.hid hb; have HLN := Lib.hid hlen
  clear h hH hb hlen
  go_enter Tryz.func9, Tryz.ntmps9
  go_wp2_with fail
  go_loopw [3, 4] (fun t i wr => (i = .int .i64 0 ∧ t = .slice none 0 0 ∧ wr = w) ∨ (i = .int .i64 1 ∧ Below w.heap.size w wr ∧ ((L = [] ∧ t = .slice none 0 0) ∨ (0 < L.length ∧ ∃ g2 c2, t = .slice (some ⟨g2, 0, none⟩) L.length c2 ∧ wr.ownsRow w.heap.size 22 1 t L.length (hdrs A (fun i => (L.getD i []).length) C L.length))))) (fun _ i _ => (1 - intOf i).toNat)
  case atStart => exact .inl ⟨rfl, rfl, rfl⟩
  case round =>
    rcases hrel with ⟨rfl, rfl, rfl⟩ | ⟨rfl, hbl, hway⟩
    · rcases Nat.eq_zero_or_pos L.length with h0 | hpos
      · obtain rfl : L = [] := List.eq_nil_of_length_eq_zero h0
        rcases HR.out.row.own.2 with ⟨hv, _⟩ | ⟨g, cap, cur, hv, _⟩
        · injection hv with e1 _ e2
          subst e1 e2
          go_wp2_with (at_builtin; refine wpList_append_own_none rfl (.tmp 11) (.tmp 15) 24 rfl wr.heap.size 22 i1 1 Tryz.underlying24 hi1 (.slice none 0 0) 0 [] rfl (own_nil wr _ 1 22) rfl ?_)
          go_roundw
          case rel => exact .inr ⟨rfl, Below.refl _ _, .inl ⟨by simp, rfl⟩⟩
          case measure => simp [intOf]
        · injection hv with e1 _ e2
          subst e1 e2
          go_wp2_with (at_builtin; refine wpList_append_own _ rfl (.tmp 11) (.tmp 15) 24 rfl wr.heap.size 22 i1 (.slice none 0 0) 1 24 Tryz.underlying24 hi1 hz01 hz11 hz21 rfl (by decide) (.slice none 0 0) 0 [] rfl (own_nil wr _ 1 22) ⟨g, 0, none⟩ 0 cv [] rfl rfl (by intro j u hu; simp at hu) (by intro u hu; simp at hu) (by decide) (by decide) (Nat.le_refl _) ?_; intro v5 w5 hown5 hg5 hnil; obtain rfl := hnil.2 ⟨rfl, rfl⟩; have HB5 := Lib.hid (Below.grown (Below.refl wr.heap.size wr) hg5 (Nat.le_refl _) (by simp [Value.ownBlock])); clear hown5 hg5 hnil)
          go_roundw
          case rel => exact .inr ⟨rfl, HB5.out, .inl ⟨by simp, rfl⟩⟩
          case measure => simp [intOf]
      · obtain ⟨g, rfl, hnews⟩ := rows_hdrs HR.out rfl hpos
        have HN := Lib.hid hnews
        clear hnews
        go_wp2_with (at_builtin; refine wpList_append_own _ rfl (.tmp 11) (.tmp 15) 24 rfl wr.heap.size 22 i1 (.slice none 0 0) 1 24 Tryz.underlying24 hi1 hz01 hz11 hz21 rfl (by decide) (.slice none 0 0) 0 [] rfl (own_nil wr _ 1 22) ⟨g, 0, none⟩ L.length cv (hdrs A (fun i => (L.getD i []).length) C L.length) rfl (by rw [hdrs_len, Nat.mul_one]) HN.out (hdrs_one _ _ _ _) (by unfold maxLen; omega) (by omega) (Nat.le_refl _) ?_; intro v5 w5 hown5 hg5 hnil; have HNE := Lib.hid (show v5 ≠ .slice none 0 0 from fun e => by have := (hnil.1 e).2; omega); have HB5 := Lib.hid (Below.grown (Below.refl wr.heap.size wr) hg5 (Nat.le_refl _) (by simp [Value.ownBlock])); have HO5 := Lib.hid hown5; clear hown5 hg5 hnil)
        go_roundw
        case rel =>
          have ho := HO5.out
          rw [Nat.zero_add, List.nil_append] at ho
          obtain ⟨g2, c2, rfl⟩ := own_forms ho HNE.out
          exact .inr ⟨rfl, HB5.out, .inr ⟨hpos, g2, c2, rfl, ho⟩⟩
        case measure => simp [intOf]
    · have HB := Lib.hid hbl
      clear x0
      have hR := HR.out.keep hbl
      have hfin : ∀ w5, Tch (fun k => base ≤ k ∧ (Value.slice Av L.length cv).ownBlock ≠ some k ∧ k ≠ hd) wr w5 → Calls Tryz.prog 18 #[.slice (some ⟨hd, 0, none⟩) 1 hc] w5 (fun e w' => e = .returned (.bool true) ∧ Tch (fun k => base ≤ k) wr w') := fun w5 ht => by
        have hv5 : w5.heap.size ≥ wr.heap.size := ht.size
        have hR5 : RowsAt base wr (.slice Av L.length cv) L A C := hR
        obtain ⟨AD, N, c, e0, hL, hin⟩ := lists_rows hR5 hn (HH.out.keep hbl)
        have hL5 : Lists 22 ElR w5 hd 1 AD AD N c := by
          have hdne : ¬ (base ≤ hd ∧ (Value.slice Av L.length cv).ownBlock ≠ some hd ∧ hd ≠ hd) := fun e => e.2.2 rfl
          refine ⟨fun q hq => (World.cell?_of_block (a := ⟨hd, q, none⟩) (ht.block hd hL.lt hdne)).trans (hL.hdr q hq), fun q hq => ?_, hL.ne, hL.apart, Nat.lt_of_lt_of_le hL.lt ht.size, hL.few, hL.small⟩
          rcases hL.form q hq with h1 | ⟨g, h1, h2, cur, h3, h4, h5⟩
          · exact .inl h1
          · exact .inr ⟨g, h1, h2, cur, (ht.block g h3.lt (fun e => e.2.1 (hin g ⟨q, hq, h1⟩))).trans h3, h4, fun i hi => absurd hi (Nat.not_lt_zero _)⟩
        refine (FlatRows hd 1 hc AD AD N c w5 hL5 (by omega)).mono fun e w6 h6 => ⟨h6.1, (ht.mono fun k _ e => e.1).trans (h6.2.mono fun k hk e => hR5.new k (hin k e))⟩
      have HF := Lib.hid hfin
      clear hfin
      rcases hway with ⟨rfl, rfl⟩ | ⟨hpos, g2, c2, rfl, ho⟩
      · clear hR
        go_wp2_with fail
        refine (ApartBytes_nil none 0 wr).mono ?_
        rintro e w5 ⟨rfl, hb5⟩
        have HC := Lib.hid (HF.out w5 (Tch.of_below hb5))
        clear hb5
        go_wp2_with fail
        refine HC.out.mono ?_
        rintro e w6 ⟨rfl, ht6⟩
        have HT := Lib.hid ((Tch.refl (fun k => base ≤ k) w).below HB.out |>.trans ht6)
        clear ht6
        go_wp2_with fail
        go_ret
        exact ⟨rfl, HT.out⟩
      · have hl2 := own_lt (g := g2) ho rfl
        have hLB := lists_bytes HR.out hn HLN.out hbl hl2.2 hl2.1 (fun q hq => by rw [ho.cellAt q (by omega)]; exact hdrs_at hq)
        have HLB := Lib.hid hLB
        have HIN := Lib.hid (show ∀ k, inG (adR L A) L.length k → base ≤ k ∧ (Value.slice Av L.length cv).ownBlock ≠ some k ∧ k ≠ hd from fun k hk => by
          obtain ⟨a1, a2, _, cs, a3⟩ := adR_base HR.out hk
          exact ⟨a1, a2, fun e => by
            subst e
            have hh := HH.out
            unfold Arr at hh a3
            rw [a3] at hh
            injection hh with hh
            injection hh with _ hh _
            exact absurd hh (by decide)⟩)
        clear hLB hl2 ho hR
        go_wp2_with fail
        refine (ApartBytes g2 L.length c2 _ A _ C wr HLB.out hpos).mono ?_
        rintro e w5 ⟨rfl, ht5⟩
        have HC := Lib.hid (HF.out w5 (ht5.mono fun k _ e => HIN.out k e))
        clear ht5
        go_wp2_with fail
        refine HC.out.mono ?_
        rintro e w6 ⟨rfl, ht6⟩
        have HT := Lib.hid ((Tch.refl (fun k => base ≤ k) w).below HB.out |>.trans ht6)
        clear ht6
        go_wp2_with fail
        go_ret
        exact ⟨rfl, HT.out⟩

end Go.Proofs.YtkmpchffflemcaaGreatDoor.Fl
end

/- The statements' kit: are lent bytes kept? lent bytes. -/
section
set_option linter.unusedVariables false
set_option linter.unusedSimpArgs false
namespace Go.Proofs.YtkmpchffflemcaaGreatDoor.Fl
open Go.RowKit
open Go.Proofs.YtkmpchffflemcaaGreatDoor.Oc (u8_info Bs Buf wp_buf bytesV byteV bytesV_len okA CapAt)
open Go.Proofs.YtkmpchffflemcaaGreatDoor.En (By RowsAt)

set_option maxRecDepth 100000 in
set_option maxHeartbeats 8000000 in
theorem KeptB_in {S : Nat → Prop} (l : By) (A B : Option Addr) (c d : Nat) (w : World) (hA : Buf w A c (l ++ mks 12) S) (hB : Bs w B l) (hl : l.length ≤ 100000000) : Calls Tryz.prog 8 #[.slice A l.length c, .slice B l.length d] w fun e w' => e = .returned (.bool true) ∧ Below w.heap.size w w' := by
  have hlen := hA.len
  have hsl : ∀ W : World, (Instr.slice 22 (.slice A l.length c) none (some (.int .i64 ((l.length : Int) + 12))) none).run Tryz.prog W = .ok (.slice A (l.length + 12) c) W := fun W => by
    have := cut_head hA.okA (n := l.length) (k := l.length + 12) (by simp [mks_len] at hlen; omega) W
    simpa using this
  obtain ⟨g, off, rfl, hg, hc⟩ := hA.bs (by intro e; have := congrArg List.length e; simp [mks_len] at this)
  have HA := Lib.hid (show Bs w (some ⟨g, off, none⟩) (l ++ mks 12) from hA.bs); have HB := Lib.hid hB
  have hwr : wrap64 ((l.length : Int) + 12) = (l.length : Int) + 12 := by unfold wrap64; omega
  have HLL := Lib.hid hl
  clear hlen hA hB hg hc
  go_enter Tryz.func8, Tryz.ntmps8
  go_wp2_with fail
  go_loopw [6] (fun i wr => ∃ j : Nat, j ≤ l.length + 12 ∧ i = .int .i64 j ∧ Below w.heap.size w wr) (fun i _ => (l.length + 12 - intOf i).toNat)
  case atStart => exact ⟨0, by omega, rfl, Below.refl _ _⟩
  case round =>
    obtain ⟨j, hj, rfl, hb⟩ := hrel
    have HBL := Lib.hid hb
    have hj0 : (0 : Int) ≤ (j : Int) := by omega
    by_cases h : j < l.length + 12
    · have hj1 : (j : Int) < (l.length : Int) + 12 := by omega
      obtain ⟨g', off', e, hg, hc⟩ := (HA.out.keep hb) (by intro e; have := congrArg List.length e; simp [mks_len] at this)
      injection e with e
      injection e with e1 e2
      subst e1 e2
      by_cases h2 : j < l.length
      · have hj2 : (j : Int) < (l.length : Int) := by omega
        have hj3 : decide ((j : Int) < (l.length : Int)) = true := decide_eq_true hj2
        have hj4 : decide ((l.length : Int) ≤ (j : Int)) = false := decide_eq_false (by omega)
        have hj5 : decide (l.length ≤ j) = false := decide_eq_false (by omega)
        obtain ⟨g2, off2, rfl, hg2, hc2⟩ := (HB.out.keep hb) (fun e => by rw [e] at h2; simp at h2)
        obtain ⟨y, hy⟩ : ∃ y, (bytesV l)[j]? = some (.int .u8 y) := ⟨_, Oc.bytesV_get h2⟩
        have y1 : wr.cell? ⟨g, off + j, none⟩ = some (.int .u8 y) := hc j _ (by rw [Oc.bytesV_app, List.getElem?_append_left (by rw [bytesV_len]; exact h2)]; exact hy)
        have y2 : wr.cell? ⟨g2, off2 + j, none⟩ = some (.int .u8 y) := hc2 j _ hy
        clear hc hc2 hy hb
        go_wp2_with fail
        refine wp_region_held_drew (S := (fun w' => w'.cell? ⟨g, off + j, none⟩ = some (.int .u8 y) ∧ w'.cell? ⟨g2, off2 + j, none⟩ = some (.int .u8 y))) (by kernel_rfl) (by exact ⟨y1, y2⟩) (fun hHeld => ?_)
        refine take_yes (i := 0) (oi := ?o10) (d := (some 23)) (v := ?v10) ?hi10 (by kernel_rfl) (by kernel_rfl) (by kernel_rfl) (fun _ _ _ h => h) ?hd10 ?hw10 ?hy10 (by assumption) ?_
        case hi10 => (simp only [List.getElem?_toArray, List.getElem?_cons_zero]; exact rfl)
        case hd10 => rfl
        case hw10 => rfl
        case hy10 => (intro w hSw; (try dsimp only at hSw); go_simp; try with_reducible rfl)
        try simp only [Act.put, List.setIfInBounds_toArray, List.set_cons_zero, List.set_cons_succ]
        refine take_yes (i := 1) (oi := ?o11) (d := (some 24)) (v := ?v11) ?hi11 (by kernel_rfl) (by kernel_rfl) (by kernel_rfl) (fun _ _ _ h => h) ?hd11 ?hw11 ?hy11 (by assumption) ?_
        case hi11 => (simp only [List.getElem?_toArray, List.getElem?_cons_zero, List.getElem?_cons_succ]; exact rfl)
        case hd11 => rfl
        case hw11 => rfl
        case hy11 => (intro w hSw; (try dsimp only at hSw); go_simp; try with_reducible rfl)
        try simp only [Act.put, List.setIfInBounds_toArray, List.set_cons_zero, List.set_cons_succ]
        refine take_yes (i := 2) (oi := ?o12) (d := (some 25)) (v := ?v12) ?hi12 (by kernel_rfl) (by kernel_rfl) (by kernel_rfl) (fun _ _ _ h => h) ?hd12 ?hw12 ?hy12 (by assumption) ?_
        case hi12 => (simp only [List.getElem?_toArray, List.getElem?_cons_zero, List.getElem?_cons_succ]; exact rfl)
        case hd12 => rfl
        case hw12 => rfl
        case hy12 => (intro w hSw; (try dsimp only at hSw); go_simp; try with_reducible rfl)
        try simp only [Act.put, List.setIfInBounds_toArray, List.set_cons_zero, List.set_cons_succ]
        refine take_yes (i := 3) (oi := ?o13) (d := (some 26)) (v := ?v13) ?hi13 (by kernel_rfl) (by kernel_rfl) (by kernel_rfl) (fun _ _ _ h => h) ?hd13 ?hw13 ?hy13 (by assumption) ?_
        case hi13 => (simp only [List.getElem?_toArray, List.getElem?_cons_zero, List.getElem?_cons_succ]; exact rfl)
        case hd13 => rfl
        case hw13 => rfl
        case hy13 => (intro w hSw; (try dsimp only at hSw); go_simp; try with_reducible rfl)
        try simp only [Act.put, List.setIfInBounds_toArray, List.set_cons_zero, List.set_cons_succ]
        refine take_yes (i := 4) (oi := ?o14) (d := (some 27)) (v := ?v14) ?hi14 (by kernel_rfl) (by kernel_rfl) (by kernel_rfl) (fun _ _ _ h => h) ?hd14 ?hw14 ?hy14 (by assumption) ?_
        case hi14 => (simp only [List.getElem?_toArray, List.getElem?_cons_zero, List.getElem?_cons_succ]; exact rfl)
        case hd14 => rfl
        case hw14 => rfl
        case hy14 => (intro w hSw; (try dsimp only at hSw); go_simp; try with_reducible rfl)
        try simp only [Act.put, List.setIfInBounds_toArray, List.set_cons_zero, List.set_cons_succ]
        refine take_yes (i := 5) (oi := ?o15) (d := (some 28)) (v := ?v15) ?hi15 (by kernel_rfl) (by kernel_rfl) (by kernel_rfl) (fun _ _ _ h => h) ?hd15 ?hw15 ?hy15 (by assumption) ?_
        case hi15 => (simp only [List.getElem?_toArray, List.getElem?_cons_zero, List.getElem?_cons_succ]; exact rfl)
        case hd15 => rfl
        case hw15 => rfl
        case hy15 => (intro w hSw; (try dsimp only at hSw); go_simp; try with_reducible rfl)
        try simp only [Act.put, List.setIfInBounds_toArray, List.set_cons_zero, List.set_cons_succ]
        refine take_yes (i := 6) (oi := ?o16) (d := (some 29)) (v := ?v16) ?hi16 (by kernel_rfl) (by kernel_rfl) (by kernel_rfl) (fun _ _ _ h => h) ?hd16 ?hw16 ?hy16 (by assumption) ?_
        case hi16 => (simp only [List.getElem?_toArray, List.getElem?_cons_zero, List.getElem?_cons_succ]; exact rfl)
        case hd16 => rfl
        case hw16 => rfl
        case hy16 => (intro w hSw; (try dsimp only at hSw); go_simp; try with_reducible rfl)
        try simp only [Act.put, List.setIfInBounds_toArray, List.set_cons_zero, List.set_cons_succ]
        refine take_yes (i := 7) (oi := ?o17) (d := (some 30)) (v := ?v17) ?hi17 (by kernel_rfl) (by kernel_rfl) (by kernel_rfl) (fun _ _ _ h => h) ?hd17 ?hw17 ?hy17 (by assumption) ?_
        case hi17 => (simp only [List.getElem?_toArray, List.getElem?_cons_zero, List.getElem?_cons_succ]; exact rfl)
        case hd17 => rfl
        case hw17 => rfl
        case hy17 => (intro w hSw; (try dsimp only at hSw); go_simp; try with_reducible rfl)
        try simp only [Act.put, List.setIfInBounds_toArray, List.set_cons_zero, List.set_cons_succ]
        refine take_yes (i := 8) (oi := ?o18) (d := (some 31)) (v := ?v18) ?hi18 (by kernel_rfl) (by kernel_rfl) (by kernel_rfl) (fun _ _ _ h => h) ?hd18 ?hw18 ?hy18 (by assumption) ?_
        case hi18 => (simp only [List.getElem?_toArray, List.getElem?_cons_zero, List.getElem?_cons_succ]; exact rfl)
        case hd18 => rfl
        case hw18 => rfl
        case hy18 => (intro w hSw; (try dsimp only at hSw); go_simp; try with_reducible rfl)
        try simp only [Act.put, List.setIfInBounds_toArray, List.set_cons_zero, List.set_cons_succ]
        refine take_yes (i := 9) (oi := ?o19) (d := (some 32)) (v := ?v19) ?hi19 (by kernel_rfl) (by kernel_rfl) (by kernel_rfl) (fun _ _ _ h => h) ?hd19 ?hw19 ?hy19 (by assumption) ?_
        case hi19 => (simp only [List.getElem?_toArray, List.getElem?_cons_zero, List.getElem?_cons_succ]; exact rfl)
        case hd19 => rfl
        case hw19 => rfl
        case hy19 => (intro w hSw; (try dsimp only at hSw); go_simp; try with_reducible rfl)
        try simp only [Act.put, List.setIfInBounds_toArray, List.set_cons_zero, List.set_cons_succ]
        refine take_yes (i := 10) (oi := ?o20) (d := (some 33)) (v := ?v20) ?hi20 (by kernel_rfl) (by kernel_rfl) (by kernel_rfl) (fun _ _ _ h => h) ?hd20 ?hw20 ?hy20 (by assumption) ?_
        case hi20 => (simp only [List.getElem?_toArray, List.getElem?_cons_zero, List.getElem?_cons_succ]; exact rfl)
        case hd20 => rfl
        case hw20 => rfl
        case hy20 => (intro w hSw; (try dsimp only at hSw); go_simp; try with_reducible rfl)
        try simp only [Act.put, List.setIfInBounds_toArray, List.set_cons_zero, List.set_cons_succ]
        refine take_yes (i := 11) (oi := ?o21) (d := (some 34)) (v := ?v21) ?hi21 (by kernel_rfl) (by kernel_rfl) (by kernel_rfl) (fun _ _ _ h => h) ?hd21 ?hw21 ?hy21 (by assumption) ?_
        case hi21 => (simp only [List.getElem?_toArray, List.getElem?_cons_zero, List.getElem?_cons_succ]; exact rfl)
        case hd21 => rfl
        case hw21 => rfl
        case hy21 => (intro w hSw; (try dsimp only at hSw); go_simp; try with_reducible rfl)
        try simp only [Act.put, List.setIfInBounds_toArray, List.set_cons_zero, List.set_cons_succ]
        refine take_yes (i := 12) (oi := ?o22) (d := (some 35)) (v := ?v22) ?hi22 (by kernel_rfl) (by kernel_rfl) (by kernel_rfl) (fun _ _ _ h => h) ?hd22 ?hw22 ?hy22 (by assumption) ?_
        case hi22 => (simp only [List.getElem?_toArray, List.getElem?_cons_zero, List.getElem?_cons_succ]; exact rfl)
        case hd22 => rfl
        case hw22 => rfl
        case hy22 => (intro w hSw; (try dsimp only at hSw); go_simp; try with_reducible rfl)
        try simp only [Act.put, List.setIfInBounds_toArray, List.set_cons_zero, List.set_cons_succ]
        refine take_yes (i := 13) (oi := ?o23) (d := (some 36)) (v := ?v23) ?hi23 (by kernel_rfl) (by kernel_rfl) (by kernel_rfl) (fun _ _ _ h => h) ?hd23 ?hw23 ?hy23 (by assumption) ?_
        case hi23 => (simp only [List.getElem?_toArray, List.getElem?_cons_zero, List.getElem?_cons_succ]; exact rfl)
        case hd23 => rfl
        case hw23 => rfl
        case hy23 => (intro w hSw; (try dsimp only at hSw); go_simp; try with_reducible rfl)
        try simp only [Act.put, List.setIfInBounds_toArray, List.set_cons_zero, List.set_cons_succ]
        refine take_yes (i := 14) (oi := ?o24) (d := (some 37)) (v := ?v24) ?hi24 (by kernel_rfl) (by kernel_rfl) (by kernel_rfl) (fun _ _ _ h => h) ?hd24 ?hw24 ?hy24 (by assumption) ?_
        case hi24 => (simp only [List.getElem?_toArray, List.getElem?_cons_zero, List.getElem?_cons_succ]; exact rfl)
        case hd24 => rfl
        case hw24 => rfl
        case hy24 => (intro w hSw; (try dsimp only at hSw); go_simp; try with_reducible rfl)
        try simp only [Act.put, List.setIfInBounds_toArray, List.set_cons_zero, List.set_cons_succ]
        refine take_yes (i := 15) (oi := ?o25) (d := (some 38)) (v := ?v25) ?hi25 (by kernel_rfl) (by kernel_rfl) (by kernel_rfl) (fun _ _ _ h => h) ?hd25 ?hw25 ?hy25 (by assumption) ?_
        case hi25 => (simp only [List.getElem?_toArray, List.getElem?_cons_zero, List.getElem?_cons_succ]; exact rfl)
        case hd25 => rfl
        case hw25 => rfl
        case hy25 => (intro w hSw; (try dsimp only at hSw); go_simp; try with_reducible rfl)
        try simp only [Act.put, List.setIfInBounds_toArray, List.set_cons_zero, List.set_cons_succ]
        refine take_yes (i := 16) (oi := ?o26) (d := (some 39)) (v := ?v26) ?hi26 (by kernel_rfl) (by kernel_rfl) (by kernel_rfl) (fun _ _ _ h => h) ?hd26 ?hw26 ?hy26 (by assumption) ?_
        case hi26 => (simp only [List.getElem?_toArray, List.getElem?_cons_zero, List.getElem?_cons_succ]; exact rfl)
        case hd26 => rfl
        case hw26 => rfl
        case hy26 => (intro w hSw; (try dsimp only at hSw); go_simp; try with_reducible rfl)
        try simp only [Act.put, List.setIfInBounds_toArray, List.set_cons_zero, List.set_cons_succ]
        refine take_yes (i := 17) (oi := ?o27) (d := (some 40)) (v := ?v27) ?hi27 (by kernel_rfl) (by kernel_rfl) (by kernel_rfl) (fun _ _ _ h => h) ?hd27 ?hw27 ?hy27 (by assumption) ?_
        case hi27 => (simp only [List.getElem?_toArray, List.getElem?_cons_zero, List.getElem?_cons_succ]; exact rfl)
        case hd27 => rfl
        case hw27 => rfl
        case hy27 => (intro w hSw; (try dsimp only at hSw); go_simp; try with_reducible rfl)
        try simp only [Act.put, List.setIfInBounds_toArray, List.set_cons_zero, List.set_cons_succ]
        refine take_yes (i := 18) (oi := ?o28) (d := (some 41)) (v := ?v28) ?hi28 (by kernel_rfl) (by kernel_rfl) (by kernel_rfl) (fun _ _ _ h => h) ?hd28 ?hw28 ?hy28 (by assumption) ?_
        case hi28 => (simp only [List.getElem?_toArray, List.getElem?_cons_zero, List.getElem?_cons_succ]; exact rfl)
        case hd28 => rfl
        case hw28 => rfl
        case hy28 => (intro w hSw; (try dsimp only at hSw); go_simp; try with_reducible rfl)
        try simp only [Act.put, List.setIfInBounds_toArray, List.set_cons_zero, List.set_cons_succ]
        refine take_yes (i := 19) (oi := ?o29) (d := (some 42)) (v := ?v29) ?hi29 (by kernel_rfl) (by kernel_rfl) (by kernel_rfl) (fun _ _ _ h => h) ?hd29 ?hw29 ?hy29 (by assumption) ?_
        case hi29 => (simp only [List.getElem?_toArray, List.getElem?_cons_zero, List.getElem?_cons_succ]; exact rfl)
        case hd29 => rfl
        case hw29 => rfl
        case hy29 => (intro w hSw; (try dsimp only at hSw); go_simp; try with_reducible rfl)
        try simp only [Act.put, List.setIfInBounds_toArray, List.set_cons_zero, List.set_cons_succ]
        refine take_yes (i := 20) (oi := ?o30) (d := (some 43)) (v := ?v30) ?hi30 (by kernel_rfl) (by kernel_rfl) (by kernel_rfl) (fun _ _ _ h => h) ?hd30 ?hw30 ?hy30 (by assumption) ?_
        case hi30 => (simp only [List.getElem?_toArray, List.getElem?_cons_zero, List.getElem?_cons_succ]; exact rfl)
        case hd30 => rfl
        case hw30 => rfl
        case hy30 => (intro w hSw; (try dsimp only at hSw); go_simp; try with_reducible rfl)
        try simp only [Act.put, List.setIfInBounds_toArray, List.set_cons_zero, List.set_cons_succ]
        refine take_yes (i := 21) (oi := ?o31) (d := (some 44)) (v := ?v31) ?hi31 (by kernel_rfl) (by kernel_rfl) (by kernel_rfl) (fun _ _ _ h => h) ?hd31 ?hw31 ?hy31 (by assumption) ?_
        case hi31 => (simp only [List.getElem?_toArray, List.getElem?_cons_zero, List.getElem?_cons_succ]; exact rfl)
        case hd31 => rfl
        case hw31 => rfl
        case hy31 => (intro w hSw; (try dsimp only at hSw); go_simp; try with_reducible rfl)
        try simp only [Act.put, List.setIfInBounds_toArray, List.set_cons_zero, List.set_cons_succ]
        refine take_no (i := 22) (oi := ?o32) (d := (some 45)) ?hi32 (by kernel_rfl) (by kernel_rfl) (by kernel_rfl) (fun _ _ _ h => h) ?hd32 ?hw32 (by assumption) ?_
        case hi32 => (simp only [List.getElem?_toArray, List.getElem?_cons_zero, List.getElem?_cons_succ]; exact rfl)
        case hd32 => rfl
        case hw32 => rfl
        try simp only [Act.put, List.setIfInBounds_toArray, List.set_cons_zero, List.set_cons_succ]
        refine take_no (i := 23) (oi := ?o33) (d := (some 46)) ?hi33 (by kernel_rfl) (by kernel_rfl) (by kernel_rfl) (fun _ _ _ h => h) ?hd33 ?hw33 (by assumption) ?_
        case hi33 => (simp only [List.getElem?_toArray, List.getElem?_cons_zero, List.getElem?_cons_succ]; exact rfl)
        case hd33 => rfl
        case hw33 => rfl
        try simp only [Act.put, List.setIfInBounds_toArray, List.set_cons_zero, List.set_cons_succ]
        refine take_no (i := 24) (oi := ?o34) (d := (some 47)) ?hi34 (by kernel_rfl) (by kernel_rfl) (by kernel_rfl) (fun _ _ _ h => h) ?hd34 ?hw34 (by assumption) ?_
        case hi34 => (simp only [List.getElem?_toArray, List.getElem?_cons_zero, List.getElem?_cons_succ]; exact rfl)
        case hd34 => rfl
        case hw34 => rfl
        try simp only [Act.put, List.setIfInBounds_toArray, List.set_cons_zero, List.set_cons_succ]
        refine take_no (i := 25) (oi := ?o35) (d := (some 48)) ?hi35 (by kernel_rfl) (by kernel_rfl) (by kernel_rfl) (fun _ _ _ h => h) ?hd35 ?hw35 (by assumption) ?_
        case hi35 => (simp only [List.getElem?_toArray, List.getElem?_cons_zero, List.getElem?_cons_succ]; exact rfl)
        case hd35 => rfl
        case hw35 => rfl
        try simp only [Act.put, List.setIfInBounds_toArray, List.set_cons_zero, List.set_cons_succ]
        refine take_no (i := 26) (oi := ?o36) (d := (some 49)) ?hi36 (by kernel_rfl) (by kernel_rfl) (by kernel_rfl) (fun _ _ _ h => h) ?hd36 ?hw36 (by assumption) ?_
        case hi36 => (simp only [List.getElem?_toArray, List.getElem?_cons_zero, List.getElem?_cons_succ]; exact rfl)
        case hd36 => rfl
        case hw36 => rfl
        try simp only [Act.put, List.setIfInBounds_toArray, List.set_cons_zero, List.set_cons_succ]
        refine take_no (i := 27) (oi := ?o37) (d := (some 50)) ?hi37 (by kernel_rfl) (by kernel_rfl) (by kernel_rfl) (fun _ _ _ h => h) ?hd37 ?hw37 (by assumption) ?_
        case hi37 => (simp only [List.getElem?_toArray, List.getElem?_cons_zero, List.getElem?_cons_succ]; exact rfl)
        case hd37 => rfl
        case hw37 => rfl
        try simp only [Act.put, List.setIfInBounds_toArray, List.set_cons_zero, List.set_cons_succ]
        refine take_no (i := 28) (oi := ?o38) (d := (some 51)) ?hi38 (by kernel_rfl) (by kernel_rfl) (by kernel_rfl) (fun _ _ _ h => h) ?hd38 ?hw38 (by assumption) ?_
        case hi38 => (simp only [List.getElem?_toArray, List.getElem?_cons_zero, List.getElem?_cons_succ]; exact rfl)
        case hd38 => rfl
        case hw38 => rfl
        try simp only [Act.put, List.setIfInBounds_toArray, List.set_cons_zero, List.set_cons_succ]
        refine take_no (i := 29) (oi := ?o39) (d := (some 52)) ?hi39 (by kernel_rfl) (by kernel_rfl) (by kernel_rfl) (fun _ _ _ h => h) ?hd39 ?hw39 (by assumption) ?_
        case hi39 => (simp only [List.getElem?_toArray, List.getElem?_cons_zero, List.getElem?_cons_succ]; exact rfl)
        case hd39 => rfl
        case hw39 => rfl
        try simp only [Act.put, List.setIfInBounds_toArray, List.set_cons_zero, List.set_cons_succ]
        refine take_no (i := 30) (oi := ?o40) (d := (some 53)) ?hi40 (by kernel_rfl) (by kernel_rfl) (by kernel_rfl) (fun _ _ _ h => h) ?hd40 ?hw40 (by assumption) ?_
        case hi40 => (simp only [List.getElem?_toArray, List.getElem?_cons_zero, List.getElem?_cons_succ]; exact rfl)
        case hd40 => rfl
        case hw40 => rfl
        try simp only [Act.put, List.setIfInBounds_toArray, List.set_cons_zero, List.set_cons_succ]
        refine take_no (i := 31) (oi := ?o41) (d := (some 54)) ?hi41 (by kernel_rfl) (by kernel_rfl) (by kernel_rfl) (fun _ _ _ h => h) ?hd41 ?hw41 (by assumption) ?_
        case hi41 => (simp only [List.getElem?_toArray, List.getElem?_cons_zero, List.getElem?_cons_succ]; exact rfl)
        case hd41 => rfl
        case hw41 => rfl
        try simp only [Act.put, List.setIfInBounds_toArray, List.set_cons_zero, List.set_cons_succ]
        refine take_no (i := 32) (oi := ?o42) (d := (some 55)) ?hi42 (by kernel_rfl) (by kernel_rfl) (by kernel_rfl) (fun _ _ _ h => h) ?hd42 ?hw42 (by assumption) ?_
        case hi42 => (simp only [List.getElem?_toArray, List.getElem?_cons_zero, List.getElem?_cons_succ]; exact rfl)
        case hd42 => rfl
        case hw42 => rfl
        try simp only [Act.put, List.setIfInBounds_toArray, List.set_cons_zero, List.set_cons_succ]
        refine take_yes (i := 33) (oi := ?o43) (d := (some 56)) (v := ?v43) ?hi43 (by kernel_rfl) (by kernel_rfl) (by kernel_rfl) (fun _ _ _ h => h) ?hd43 ?hw43 ?hy43 (by assumption) ?_
        case hi43 => (simp only [List.getElem?_toArray, List.getElem?_cons_zero, List.getElem?_cons_succ]; exact rfl)
        case hd43 => rfl
        case hw43 => rfl
        case hy43 => (intro w hSw; (try dsimp only at hSw); go_simp; try with_reducible rfl)
        try simp only [Act.put, List.setIfInBounds_toArray, List.set_cons_zero, List.set_cons_succ]
        refine take_yes (i := 34) (oi := ?o44) (d := (some 57)) (v := ?v44) ?hi44 (by kernel_rfl) (by kernel_rfl) (by kernel_rfl) (fun _ _ _ h => h) ?hd44 ?hw44 ?hy44 (by assumption) ?_
        case hi44 => (simp only [List.getElem?_toArray, List.getElem?_cons_zero, List.getElem?_cons_succ]; exact rfl)
        case hd44 => rfl
        case hw44 => rfl
        case hy44 => (intro w hSw; (try dsimp only at hSw); go_simp; try with_reducible rfl)
        try simp only [Act.put, List.setIfInBounds_toArray, List.set_cons_zero, List.set_cons_succ]
        refine wpAnyH_done (by kernel_rfl) ?_ _
        go_wp2_with fail
        go_roundw
        case rel => exact ⟨j + 1, by omega, by go_num, ext_drew HBL.out⟩
        case measure => simp [intOf]; omega
      · have hj2 : ¬ (j : Int) < (l.length : Int) := by omega
        have hj3 : decide ((j : Int) < (l.length : Int)) = false := decide_eq_false hj2
        have hj4 : decide ((l.length : Int) ≤ (j : Int)) = true := decide_eq_true (by omega)
        have hj5 : decide (l.length ≤ j) = true := decide_eq_true (by omega)
        have hj6 : decide (j < l.length) = false := decide_eq_false (by omega)
        obtain ⟨q, hjq⟩ : ∃ q, j = l.length + q := ⟨j - l.length, by omega⟩
        have hq : q < 12 := by omega
        have hy : (bytesV (mks 12))[q]? = some (.int .u8 (mkV 1 q)) := by
          have h5 : q < (mks 12).length := by rw [mks_len]; exact hq
          rw [Oc.bytesV_get h5]
          have h6 : (mks 12)[q] = mkU 1 q := by simp [mks]
          rw [h6, mkU_val]
        have y1 : wr.cell? ⟨g, off + j, none⟩ = some (.int .u8 (mkV 1 q)) := hc j _ (by rw [Oc.bytesV_app, List.getElem?_append_right (by rw [bytesV_len]; omega), bytesV_len, show j - l.length = q by omega]; exact hy)
        obtain ⟨M, hM⟩ : ∃ M, mkV 1 q = M := ⟨_, rfl⟩
        rw [hM] at y1
        have hwq : wrap64 ((j : Int) - (l.length : Int)) = (q : Int) := by unfold wrap64; omega
        have hms := Lib.hid (show ∀ (W : World) (y : Int), y = (q : Int) → Calls Tryz.prog 11 #[.int .i64 1, .int .i64 y] W (fun e w' => e = .returned (.int .u8 M) ∧ Below W.heap.size W w') from fun W y hy => by rw [← hM]; exact MarkByteE 1 q _ y rfl hy W)
        have HS := Lib.hid (show ∀ W, Below wr.heap.size wr W → W.cell? ⟨g, off + j, none⟩ = some (.int .u8 M) ∧ Below wr.heap.size wr W from fun W hW => ⟨(hW.cell (p := ⟨g, off + j, none⟩) hg).trans y1, hW⟩)
        have HJQ := Lib.hid hjq
        clear hc hy hb hM y1 hjq hq
        go_wp2_with fail
        refine wp_region_held_drew (S := (fun w' => w'.cell? ⟨g, off + j, none⟩ = some (.int .u8 M) ∧ Below wr.heap.size wr w')) (by kernel_rfl) (by exact HS.out _ (ext_drew (Below.refl _ _))) (fun hHeld => ?_)
        refine take_yes (i := 0) (oi := ?o45) (d := (some 23)) (v := ?v45) ?hi45 (by kernel_rfl) (by kernel_rfl) (by kernel_rfl) (fun _ _ _ h => h) ?hd45 ?hw45 ?hy45 (by assumption) ?_
        case hi45 => (simp only [List.getElem?_toArray, List.getElem?_cons_zero]; exact rfl)
        case hd45 => rfl
        case hw45 => rfl
        case hy45 => (intro w hSw; (try dsimp only at hSw); go_simp; try with_reducible rfl)
        try simp only [Act.put, List.setIfInBounds_toArray, List.set_cons_zero, List.set_cons_succ]
        refine take_yes (i := 1) (oi := ?o46) (d := (some 24)) (v := ?v46) ?hi46 (by kernel_rfl) (by kernel_rfl) (by kernel_rfl) (fun _ _ _ h => h) ?hd46 ?hw46 ?hy46 (by assumption) ?_
        case hi46 => (simp only [List.getElem?_toArray, List.getElem?_cons_zero, List.getElem?_cons_succ]; exact rfl)
        case hd46 => rfl
        case hw46 => rfl
        case hy46 => (intro w hSw; (try dsimp only at hSw); go_simp; try with_reducible rfl)
        try simp only [Act.put, List.setIfInBounds_toArray, List.set_cons_zero, List.set_cons_succ]
        refine take_yes (i := 2) (oi := ?o47) (d := (some 25)) (v := ?v47) ?hi47 (by kernel_rfl) (by kernel_rfl) (by kernel_rfl) (fun _ _ _ h => h) ?hd47 ?hw47 ?hy47 (by assumption) ?_
        case hi47 => (simp only [List.getElem?_toArray, List.getElem?_cons_zero, List.getElem?_cons_succ]; exact rfl)
        case hd47 => rfl
        case hw47 => rfl
        case hy47 => (intro w hSw; (try dsimp only at hSw); go_simp; try with_reducible rfl)
        try simp only [Act.put, List.setIfInBounds_toArray, List.set_cons_zero, List.set_cons_succ]
        refine take_yes (i := 3) (oi := ?o48) (d := (some 26)) (v := ?v48) ?hi48 (by kernel_rfl) (by kernel_rfl) (by kernel_rfl) (fun _ _ _ h => h) ?hd48 ?hw48 ?hy48 (by assumption) ?_
        case hi48 => (simp only [List.getElem?_toArray, List.getElem?_cons_zero, List.getElem?_cons_succ]; exact rfl)
        case hd48 => rfl
        case hw48 => rfl
        case hy48 => (intro w hSw; (try dsimp only at hSw); go_simp; try with_reducible rfl)
        try simp only [Act.put, List.setIfInBounds_toArray, List.set_cons_zero, List.set_cons_succ]
        refine take_yes (i := 4) (oi := ?o49) (d := (some 27)) (v := ?v49) ?hi49 (by kernel_rfl) (by kernel_rfl) (by kernel_rfl) (fun _ _ _ h => h) ?hd49 ?hw49 ?hy49 (by assumption) ?_
        case hi49 => (simp only [List.getElem?_toArray, List.getElem?_cons_zero, List.getElem?_cons_succ]; exact rfl)
        case hd49 => rfl
        case hw49 => rfl
        case hy49 => (intro w hSw; (try dsimp only at hSw); go_simp; try with_reducible rfl)
        try simp only [Act.put, List.setIfInBounds_toArray, List.set_cons_zero, List.set_cons_succ]
        refine take_no (i := 5) (oi := ?o50) (d := (some 28)) ?hi50 (by kernel_rfl) (by kernel_rfl) (by kernel_rfl) (fun _ _ _ h => h) ?hd50 ?hw50 (by assumption) ?_
        case hi50 => (simp only [List.getElem?_toArray, List.getElem?_cons_zero, List.getElem?_cons_succ]; exact rfl)
        case hd50 => rfl
        case hw50 => rfl
        try simp only [Act.put, List.setIfInBounds_toArray, List.set_cons_zero, List.set_cons_succ]
        refine take_no (i := 6) (oi := ?o51) (d := (some 29)) ?hi51 (by kernel_rfl) (by kernel_rfl) (by kernel_rfl) (fun _ _ _ h => h) ?hd51 ?hw51 (by assumption) ?_
        case hi51 => (simp only [List.getElem?_toArray, List.getElem?_cons_zero, List.getElem?_cons_succ]; exact rfl)
        case hd51 => rfl
        case hw51 => rfl
        try simp only [Act.put, List.setIfInBounds_toArray, List.set_cons_zero, List.set_cons_succ]
        refine take_no (i := 7) (oi := ?o52) (d := (some 30)) ?hi52 (by kernel_rfl) (by kernel_rfl) (by kernel_rfl) (fun _ _ _ h => h) ?hd52 ?hw52 (by assumption) ?_
        case hi52 => (simp only [List.getElem?_toArray, List.getElem?_cons_zero, List.getElem?_cons_succ]; exact rfl)
        case hd52 => rfl
        case hw52 => rfl
        try simp only [Act.put, List.setIfInBounds_toArray, List.set_cons_zero, List.set_cons_succ]
        refine take_no (i := 8) (oi := ?o53) (d := (some 31)) ?hi53 (by kernel_rfl) (by kernel_rfl) (by kernel_rfl) (fun _ _ _ h => h) ?hd53 ?hw53 (by assumption) ?_
        case hi53 => (simp only [List.getElem?_toArray, List.getElem?_cons_zero, List.getElem?_cons_succ]; exact rfl)
        case hd53 => rfl
        case hw53 => rfl
        try simp only [Act.put, List.setIfInBounds_toArray, List.set_cons_zero, List.set_cons_succ]
        refine take_no (i := 9) (oi := ?o54) (d := (some 32)) ?hi54 (by kernel_rfl) (by kernel_rfl) (by kernel_rfl) (fun _ _ _ h => h) ?hd54 ?hw54 (by assumption) ?_
        case hi54 => (simp only [List.getElem?_toArray, List.getElem?_cons_zero, List.getElem?_cons_succ]; exact rfl)
        case hd54 => rfl
        case hw54 => rfl
        try simp only [Act.put, List.setIfInBounds_toArray, List.set_cons_zero, List.set_cons_succ]
        refine take_no (i := 10) (oi := ?o55) (d := (some 33)) ?hi55 (by kernel_rfl) (by kernel_rfl) (by kernel_rfl) (fun _ _ _ h => h) ?hd55 ?hw55 (by assumption) ?_
        case hi55 => (simp only [List.getElem?_toArray, List.getElem?_cons_zero, List.getElem?_cons_succ]; exact rfl)
        case hd55 => rfl
        case hw55 => rfl
        try simp only [Act.put, List.setIfInBounds_toArray, List.set_cons_zero, List.set_cons_succ]
        refine take_no (i := 11) (oi := ?o56) (d := (some 34)) ?hi56 (by kernel_rfl) (by kernel_rfl) (by kernel_rfl) (fun _ _ _ h => h) ?hd56 ?hw56 (by assumption) ?_
        case hi56 => (simp only [List.getElem?_toArray, List.getElem?_cons_zero, List.getElem?_cons_succ]; exact rfl)
        case hd56 => rfl
        case hw56 => rfl
        try simp only [Act.put, List.setIfInBounds_toArray, List.set_cons_zero, List.set_cons_succ]
        refine take_no (i := 12) (oi := ?o57) (d := (some 35)) ?hi57 (by kernel_rfl) (by kernel_rfl) (by kernel_rfl) (fun _ _ _ h => h) ?hd57 ?hw57 (by assumption) ?_
        case hi57 => (simp only [List.getElem?_toArray, List.getElem?_cons_zero, List.getElem?_cons_succ]; exact rfl)
        case hd57 => rfl
        case hw57 => rfl
        try simp only [Act.put, List.setIfInBounds_toArray, List.set_cons_zero, List.set_cons_succ]
        refine take_no (i := 13) (oi := ?o58) (d := (some 36)) ?hi58 (by kernel_rfl) (by kernel_rfl) (by kernel_rfl) (fun _ _ _ h => h) ?hd58 ?hw58 (by assumption) ?_
        case hi58 => (simp only [List.getElem?_toArray, List.getElem?_cons_zero, List.getElem?_cons_succ]; exact rfl)
        case hd58 => rfl
        case hw58 => rfl
        try simp only [Act.put, List.setIfInBounds_toArray, List.set_cons_zero, List.set_cons_succ]
        refine take_no (i := 14) (oi := ?o59) (d := (some 37)) ?hi59 (by kernel_rfl) (by kernel_rfl) (by kernel_rfl) (fun _ _ _ h => h) ?hd59 ?hw59 (by assumption) ?_
        case hi59 => (simp only [List.getElem?_toArray, List.getElem?_cons_zero, List.getElem?_cons_succ]; exact rfl)
        case hd59 => rfl
        case hw59 => rfl
        try simp only [Act.put, List.setIfInBounds_toArray, List.set_cons_zero, List.set_cons_succ]
        refine take_yes (i := 15) (oi := ?o60) (d := (some 38)) (v := ?v60) ?hi60 (by kernel_rfl) (by kernel_rfl) (by kernel_rfl) (fun _ _ _ h => h) ?hd60 ?hw60 ?hy60 (by assumption) ?_
        case hi60 => (simp only [List.getElem?_toArray, List.getElem?_cons_zero, List.getElem?_cons_succ]; exact rfl)
        case hd60 => rfl
        case hw60 => rfl
        case hy60 => (intro w hSw; (try dsimp only at hSw); go_simp; try with_reducible rfl)
        try simp only [Act.put, List.setIfInBounds_toArray, List.set_cons_zero, List.set_cons_succ]
        refine take_yes (i := 16) (oi := ?o61) (d := (some 39)) (v := ?v61) ?hi61 (by kernel_rfl) (by kernel_rfl) (by kernel_rfl) (fun _ _ _ h => h) ?hd61 ?hw61 ?hy61 (by assumption) ?_
        case hi61 => (simp only [List.getElem?_toArray, List.getElem?_cons_zero, List.getElem?_cons_succ]; exact rfl)
        case hd61 => rfl
        case hw61 => rfl
        case hy61 => (intro w hSw; (try dsimp only at hSw); go_simp; try with_reducible rfl)
        try simp only [Act.put, List.setIfInBounds_toArray, List.set_cons_zero, List.set_cons_succ]
        refine take_yes (i := 17) (oi := ?o62) (d := (some 40)) (v := ?v62) ?hi62 (by kernel_rfl) (by kernel_rfl) (by kernel_rfl) (fun _ _ _ h => h) ?hd62 ?hw62 ?hy62 (by assumption) ?_
        case hi62 => (simp only [List.getElem?_toArray, List.getElem?_cons_zero, List.getElem?_cons_succ]; exact rfl)
        case hd62 => rfl
        case hw62 => rfl
        case hy62 => (intro w hSw; (try dsimp only at hSw); go_simp; try with_reducible rfl)
        try simp only [Act.put, List.setIfInBounds_toArray, List.set_cons_zero, List.set_cons_succ]
        refine take_yes (i := 18) (oi := ?o63) (d := (some 41)) (v := ?v63) ?hi63 (by kernel_rfl) (by kernel_rfl) (by kernel_rfl) (fun _ _ _ h => h) ?hd63 ?hw63 ?hy63 (by assumption) ?_
        case hi63 => (simp only [List.getElem?_toArray, List.getElem?_cons_zero, List.getElem?_cons_succ]; exact rfl)
        case hd63 => rfl
        case hw63 => rfl
        case hy63 => (intro w hSw; (try dsimp only at hSw); go_simp; try with_reducible rfl)
        try simp only [Act.put, List.setIfInBounds_toArray, List.set_cons_zero, List.set_cons_succ]
        refine take_yes (i := 19) (oi := ?o64) (d := (some 42)) (v := ?v64) ?hi64 (by kernel_rfl) (by kernel_rfl) (by kernel_rfl) (fun _ _ _ h => h) ?hd64 ?hw64 ?hy64 (by assumption) ?_
        case hi64 => (simp only [List.getElem?_toArray, List.getElem?_cons_zero, List.getElem?_cons_succ]; exact rfl)
        case hd64 => rfl
        case hw64 => rfl
        case hy64 => (intro w hSw; (try dsimp only at hSw); go_simp; try with_reducible rfl)
        try simp only [Act.put, List.setIfInBounds_toArray, List.set_cons_zero, List.set_cons_succ]
        refine take_yes (i := 20) (oi := ?o65) (d := (some 43)) (v := ?v65) ?hi65 (by kernel_rfl) (by kernel_rfl) (by kernel_rfl) (fun _ _ _ h => h) ?hd65 ?hw65 ?hy65 (by assumption) ?_
        case hi65 => (simp only [List.getElem?_toArray, List.getElem?_cons_zero, List.getElem?_cons_succ]; exact rfl)
        case hd65 => rfl
        case hw65 => rfl
        case hy65 => (intro w hSw; (try dsimp only at hSw); go_simp; try with_reducible rfl)
        try simp only [Act.put, List.setIfInBounds_toArray, List.set_cons_zero, List.set_cons_succ]
        refine take_yes (i := 21) (oi := ?o66) (d := (some 44)) (v := ?v66) ?hi66 (by kernel_rfl) (by kernel_rfl) (by kernel_rfl) (fun _ _ _ h => h) ?hd66 ?hw66 ?hy66 (by assumption) ?_
        case hi66 => (simp only [List.getElem?_toArray, List.getElem?_cons_zero, List.getElem?_cons_succ]; exact rfl)
        case hd66 => rfl
        case hw66 => rfl
        case hy66 => (intro w hSw; (try dsimp only at hSw); go_simp; try with_reducible rfl)
        try simp only [Act.put, List.setIfInBounds_toArray, List.set_cons_zero, List.set_cons_succ]
        refine take_yes (i := 22) (oi := ?o67) (d := (some 45)) (v := ?v67) ?hi67 (by kernel_rfl) (by kernel_rfl) (by kernel_rfl) (fun _ _ _ h => h) ?hd67 ?hw67 ?hy67 (by assumption) ?_
        case hi67 => (simp only [List.getElem?_toArray, List.getElem?_cons_zero, List.getElem?_cons_succ]; exact rfl)
        case hd67 => rfl
        case hw67 => rfl
        case hy67 => (intro w hSw; (try dsimp only at hSw); go_simp; try with_reducible rfl)
        try simp only [Act.put, List.setIfInBounds_toArray, List.set_cons_zero, List.set_cons_succ]
        refine take_yes (i := 23) (oi := ?o68) (d := (some 46)) (v := ?v68) ?hi68 (by kernel_rfl) (by kernel_rfl) (by kernel_rfl) (fun _ _ _ h => h) ?hd68 ?hw68 ?hy68 (by assumption) ?_
        case hi68 => (simp only [List.getElem?_toArray, List.getElem?_cons_zero, List.getElem?_cons_succ]; exact rfl)
        case hd68 => rfl
        case hw68 => rfl
        case hy68 => (intro w hSw; (try dsimp only at hSw); go_simp; try with_reducible rfl)
        try simp only [Act.put, List.setIfInBounds_toArray, List.set_cons_zero, List.set_cons_succ]
        refine take_yes (i := 24) (oi := ?o69) (d := (some 47)) (v := ?v69) ?hi69 (by kernel_rfl) (by kernel_rfl) (by kernel_rfl) (fun _ _ _ h => h) ?hd69 ?hw69 ?hy69 (by assumption) ?_
        case hi69 => (simp only [List.getElem?_toArray, List.getElem?_cons_zero, List.getElem?_cons_succ]; exact rfl)
        case hd69 => rfl
        case hw69 => rfl
        case hy69 => (intro w hSw; (try dsimp only at hSw); go_simp; try with_reducible rfl)
        try simp only [Act.put, List.setIfInBounds_toArray, List.set_cons_zero, List.set_cons_succ]
        refine take_yes (i := 25) (oi := ?o70) (d := (some 48)) (v := ?v70) ?hi70 (by kernel_rfl) (by kernel_rfl) (by kernel_rfl) (fun _ _ _ h => h) ?hd70 ?hw70 ?hy70 (by assumption) ?_
        case hi70 => (simp only [List.getElem?_toArray, List.getElem?_cons_zero, List.getElem?_cons_succ]; exact rfl)
        case hd70 => rfl
        case hw70 => rfl
        case hy70 => (intro w hSw; (try dsimp only at hSw); go_simp; try with_reducible rfl)
        try simp only [Act.put, List.setIfInBounds_toArray, List.set_cons_zero, List.set_cons_succ]
        refine take_yes (i := 26) (oi := ?o71) (d := (some 49)) (v := ?v71) ?hi71 (by kernel_rfl) (by kernel_rfl) (by kernel_rfl) (fun _ _ _ h => h) ?hd71 ?hw71 ?hy71 (by assumption) ?_
        case hi71 => (simp only [List.getElem?_toArray, List.getElem?_cons_zero, List.getElem?_cons_succ]; exact rfl)
        case hd71 => rfl
        case hw71 => rfl
        case hy71 => (intro w hSw; (try dsimp only at hSw); go_simp; try with_reducible rfl)
        try simp only [Act.put, List.setIfInBounds_toArray, List.set_cons_zero, List.set_cons_succ]
        refine take_yes (i := 27) (oi := ?o72) (d := (some 50)) (v := ?v72) ?hi72 (by kernel_rfl) (by kernel_rfl) (by kernel_rfl) (fun _ _ _ h => h) ?hd72 ?hw72 ?hy72 (by assumption) ?_
        case hi72 => (simp only [List.getElem?_toArray, List.getElem?_cons_zero, List.getElem?_cons_succ]; exact rfl)
        case hd72 => rfl
        case hw72 => rfl
        case hy72 => (intro w hSw; (try dsimp only at hSw); go_simp; try with_reducible rfl)
        try simp only [Act.put, List.setIfInBounds_toArray, List.set_cons_zero, List.set_cons_succ]
        refine take_yes (i := 28) (oi := ?o73) (d := (some 51)) (v := ?v73) ?hi73 (by kernel_rfl) (by kernel_rfl) (by kernel_rfl) (fun _ _ _ h => h) ?hd73 ?hw73 ?hy73 (by assumption) ?_
        case hi73 => (simp only [List.getElem?_toArray, List.getElem?_cons_zero, List.getElem?_cons_succ]; exact rfl)
        case hd73 => rfl
        case hw73 => rfl
        case hy73 => (intro w hSw; (try dsimp only at hSw); go_simp; try with_reducible rfl)
        try simp only [Act.put, List.setIfInBounds_toArray, List.set_cons_zero, List.set_cons_succ]
        refine take_yes (i := 29) (oi := ?o74) (d := (some 52)) (v := ?v74) ?hi74 (by kernel_rfl) (by kernel_rfl) (by kernel_rfl) (fun _ _ _ h => h) ?hd74 ?hw74 ?hy74 (by assumption) ?_
        case hi74 => (simp only [List.getElem?_toArray, List.getElem?_cons_zero, List.getElem?_cons_succ]; exact rfl)
        case hd74 => rfl
        case hw74 => rfl
        case hy74 => (intro w hSw; (try dsimp only at hSw); go_simp; try with_reducible rfl)
        try simp only [Act.put, List.setIfInBounds_toArray, List.set_cons_zero, List.set_cons_succ]
        refine wpAnyH_ready (rs := [30]) (by kernel_rfl) (by simp) ?_
        refine AllReadyH.cons rfl (fun K hK => ?_) AllReadyH.nil
        go_simp
        (go_at_call 11; refine (hms.out _ _ (by have := HJQ.out; rw [IntKind.wrap_i64]; omega)).mono ?_; rintro e w8 ⟨rfl, hb8⟩; have hbz := ext_trans hHeld.2 hb8)
        go_wp2_with fail
        refine hK.out _ _ (by exact HS.out _ hbz) (fun hHeld30 => ?_)
        clear hK K
        try simp only [Act.put, List.setIfInBounds_toArray, List.set_cons_zero, List.set_cons_succ]
        refine take_yes (i := 31) (oi := ?o75) (d := (some 54)) (v := ?v75) ?hi75 (by kernel_rfl) (by kernel_rfl) (by kernel_rfl) (fun _ _ _ h => h) ?hd75 ?hw75 ?hy75 (by assumption) ?_
        case hi75 => (simp only [List.getElem?_toArray, List.getElem?_cons_zero, List.getElem?_cons_succ]; exact rfl)
        case hd75 => rfl
        case hw75 => rfl
        case hy75 => (intro w hSw; (try dsimp only at hSw); go_simp; try with_reducible rfl)
        try simp only [Act.put, List.setIfInBounds_toArray, List.set_cons_zero, List.set_cons_succ]
        refine take_yes (i := 32) (oi := ?o76) (d := (some 55)) (v := ?v76) ?hi76 (by kernel_rfl) (by kernel_rfl) (by kernel_rfl) (fun _ _ _ h => h) ?hd76 ?hw76 ?hy76 (by assumption) ?_
        case hi76 => (simp only [List.getElem?_toArray, List.getElem?_cons_zero, List.getElem?_cons_succ]; exact rfl)
        case hd76 => rfl
        case hw76 => rfl
        case hy76 => (intro w hSw; (try dsimp only at hSw); go_simp; try with_reducible rfl)
        try simp only [Act.put, List.setIfInBounds_toArray, List.set_cons_zero, List.set_cons_succ]
        refine take_yes (i := 33) (oi := ?o77) (d := (some 56)) (v := ?v77) ?hi77 (by kernel_rfl) (by kernel_rfl) (by kernel_rfl) (fun _ _ _ h => h) ?hd77 ?hw77 ?hy77 (by assumption) ?_
        case hi77 => (simp only [List.getElem?_toArray, List.getElem?_cons_zero, List.getElem?_cons_succ]; exact rfl)
        case hd77 => rfl
        case hw77 => rfl
        case hy77 => (intro w hSw; (try dsimp only at hSw); go_simp; try with_reducible rfl)
        try simp only [Act.put, List.setIfInBounds_toArray, List.set_cons_zero, List.set_cons_succ]
        refine take_yes (i := 34) (oi := ?o78) (d := (some 57)) (v := ?v78) ?hi78 (by kernel_rfl) (by kernel_rfl) (by kernel_rfl) (fun _ _ _ h => h) ?hd78 ?hw78 ?hy78 (by assumption) ?_
        case hi78 => (simp only [List.getElem?_toArray, List.getElem?_cons_zero, List.getElem?_cons_succ]; exact rfl)
        case hd78 => rfl
        case hw78 => rfl
        case hy78 => (intro w hSw; (try dsimp only at hSw); go_simp; try with_reducible rfl)
        try simp only [Act.put, List.setIfInBounds_toArray, List.set_cons_zero, List.set_cons_succ]
        refine wpAnyH_done (by kernel_rfl) ?_ _
        go_wp2_with fail
        go_roundw
        case rel => exact ⟨j + 1, by omega, by go_num, ext_trans HBL.out hHeld30.2⟩
        case measure => simp [intOf]; omega
    · obtain rfl : j = l.length + 12 := by omega
      clear hb
      go_wp2_with fail
      go_ret
      exact ⟨rfl, HBL.out⟩

end Go.Proofs.YtkmpchffflemcaaGreatDoor.Fl
end
