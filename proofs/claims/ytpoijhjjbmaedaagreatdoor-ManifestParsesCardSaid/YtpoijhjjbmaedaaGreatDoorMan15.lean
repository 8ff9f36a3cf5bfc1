/- The manifest's reference reads a text (Parse). -/
import Derived.Test.YtpoijhjjbmaedaaGreatDoorMan14
set_option linter.unusedVariables false
set_option linter.unusedSimpArgs false
namespace Go.Proofs.YtpoijhjjbmaedaaGreatDoor.Man
open Go.RowKit

theorem readR_rest {okA okB : List UInt8 → Bool} {L : List UInt8} {p : Nat} {y : List UInt8 × List UInt8 × Bool} {r : List UInt8} (h : readR okA okB (L.drop p) = some (y, r)) : ∃ q, p < q ∧ q ≤ L.length ∧ r = L.drop q := by
  unfold readR at h
  split at h
  · cases h
  · rename_i a r1 h1
    obtain ⟨d1, d2, _⟩ := upto_drop h1
    split at h
    · split at h
      · cases h
      · rename_i b r2 h2
        rw [d1] at h2
        obtain ⟨e1, e2, _⟩ := upto_drop h2
        split at h
        · cases h
        · rename_i c r3 h3
          rw [e1] at h3
          obtain ⟨f1, f2, _⟩ := upto_drop h3
          split at h
          · injection h with h
            injection h with _ h
            subst h
            exact ⟨_, by omega, f2, f1⟩
          · cases h
    · cases h
/-- what was read so far, and what the rest comes to -/
def pre {α : Type} (ys : List α) (z : List α × Nat) : List α × Nat := match z with
  | (zs, 0) => (ys ++ zs, 0)
  | (_, k + 1) => ([], k + 1)
theorem pre_nil {α : Type} (z : List α × Nat) (h : z.2 = 0 ∨ z.1 = []) : pre [] z = z := by
  obtain ⟨zs, _ | k⟩ := z
  · rfl
  · rcases h with h | h
    · simp at h
    · simp only at h; subst h; rfl
theorem parse_form {α : Type} (rd : List UInt8 → Option (α × List UInt8)) : ∀ (f n : Nat) (l : List UInt8), (parse rd f n l).2 = 0 ∨ (parse rd f n l).1 = []
  | 0, _, _ => .inl rfl
  | _ + 1, _, [] => .inl rfl
  | f + 1, n, x :: l => by
    unfold parse
    split
    · exact .inr rfl
    · split
      · exact .inl rfl
      · exact .inr rfl
theorem parse_none {α : Type} {rd : List UInt8 → Option (α × List UInt8)} {f n : Nat} {l : List UInt8} (hl : l ≠ []) (h : rd l = none) : parse rd (f + 1) n l = ([], n + 1) := by
  cases l with
  | nil => exact absurd rfl hl
  | cons x l => unfold parse; rw [h]
theorem parse_some {α : Type} {rd : List UInt8 → Option (α × List UInt8)} {f n : Nat} {l r : List UInt8} {y : α} (hl : l ≠ []) (h : rd l = some (y, r)) : parse rd (f + 1) n l = pre [y] (parse rd f (n + 1) r) := by
  cases l with
  | nil => exact absurd rfl hl
  | cons x l =>
    rcases hz : parse rd f (n + 1) r with ⟨zs, _ | k⟩
    · conv => lhs; unfold parse
      simp only [h, hz]; rfl
    · conv => lhs; unfold parse
      simp only [h, hz]; rfl
theorem pre_pre {α : Type} (xs ys : List α) (z : List α × Nat) : pre xs (pre ys z) = pre (xs ++ ys) z := by
  obtain ⟨zs, _ | k⟩ := z
  · simp [pre]
  · rfl

def ParseR (s : ByteArray) (w : World) (e : Ending) (w' : World) : Prop :=
  ((∃ (ls : List Ln) (v : Value), parse (readR okA okB) (s.size + 1) 0 s.data.toList = (ls.map trip, 0) ∧ e = .returned (.tuple #[v, .int .i64 0, .int .i64 0]) ∧ RowIn (fun k => w.heap.size ≤ k) w' 74 3 v ls.length (rowC ls)) ∨
    (∃ k : Nat, parse (readR okA okB) (s.size + 1) 0 s.data.toList = ([], k + 1) ∧ e = .returned (.tuple #[.slice none 0 0, .int .i64 ((k : Int) + 1), .int .i64 150]))) ∧ Below w.heap.size w w'

set_option maxRecDepth 100000 in
set_option maxHeartbeats 2000000 in
theorem rParse_in (s : ByteArray) (w : World) (hs : s.size ≤ 20000) : Calls Tryz.prog 24 #[.string s] w (ParseR s w) := by
  obtain ⟨i0, hi, hz0, hz1, hz2⟩ := info_parts line_info
  have HS := Lib.hid hs
  have HLEN := Lib.hid (Lib.size_eq s)
  have hsz : (s.size : Int) ≤ 20000 := by omega
  clear hs
  go_enter Tryz.func24, Tryz.ntmps24
  go_wp2_with fail
  go_loopw [5, 6] (fun out i wr => ∃ (p f : Nat) (ls : List Ln) (VA : Option Addr) (vc : Nat), p ≤ s.size ∧ s.size - p ≤ f ∧ ls.length ≤ p ∧ i = .int .i64 (p : Int) ∧ out = .slice VA ls.length vc ∧ RowIn (fun j => w.heap.size ≤ j) wr 74 3 (.slice VA ls.length vc) ls.length (rowC ls) ∧ Below w.heap.size w wr ∧
    parse (readR okA okB) (s.size + 1) 0 s.data.toList = pre (ls.map trip) (parse (readR okA okB) (f + 1) ls.length (s.data.toList.drop p))) (fun _ i _ => (s.size - intOf i).toNat)
  case atStart => exact ⟨0, s.size, [], none, 0, by omega, by omega, by simp, rfl, rfl, RowIn.nil _ _ _ _ _, Below.refl _ _, by rw [List.drop_zero]; exact (pre_nil _ (parse_form _ _ _ _)).symm⟩
  case round =>
    obtain ⟨p, f, ls, VA, vc, hp, hf, hlp, rfl, rfl, hR, hB, hpa⟩ := hrel
    have hlb : (ls.length : Int) ≤ 20000 := by omega
    have HR := Lib.hid hR; have HB := Lib.hid hB; have HPA := Lib.hid hpa; have HF := Lib.hid hf; have HLP := Lib.hid hlp
    clear hR hB hpa hf hlp
    by_cases hlt : (p : Int) < (s.size : Int)
    · have hne : s.data.toList.drop p ≠ [] := fun e => by
        have := congrArg List.length e
        rw [List.length_drop, ← Lib.size_eq] at this
        simp at this; omega
      have HNE := Lib.hid hne
      clear hne
      go_wp2_with fail
      refine (Read_in s p wr HS.out hp).mono ?_
      rintro e w2 ⟨⟨⟨xa, xb, xh⟩, nx, ok, rfl, hm⟩, hb2⟩
      cases hr : readR okA okB (s.data.toList.drop p) with
      | none =>
        rw [hr] at hm
        simp only at hm
        subst hm
        have HRR := Lib.hid hr
        have HB2 := Lib.hid (ext_trans HB.out hb2)
        clear hr hb2
        dsimp only [lineL]
        go_wp2_with fail
        go_ret3
        refine ⟨.inr ⟨ls.length, ?_, ?_⟩, ?_⟩
        · rw [HPA.out, parse_none HNE.out HRR.out]; rfl
        · rfl
        · exact ext_alloc HB2.out _
      | some z =>
        obtain ⟨y, r⟩ := z
        rw [hr] at hm
        simp only at hm
        obtain ⟨hok, hy, hn⟩ := hm
        subst hok
        obtain ⟨q, q1, q2, q3⟩ := readR_rest hr
        have hq : s.size - r.length = q := by rw [q3, List.length_drop, ← Lib.size_eq]; rw [← Lib.size_eq] at q2; omega
        rw [hq] at hn
        have q2' : q ≤ s.size := by rw [← Lib.size_eq] at q2; exact q2
        subst hn
        have hpa2 : parse (readR okA okB) (s.size + 1) 0 s.data.toList = pre ((ls ++ [(⟨xa, xb, xh⟩ : Ln)]).map trip) (parse (readR okA okB) f (ls.length + 1) (s.data.toList.drop q)) := by
          rw [HPA.out, parse_some HNE.out hr, pre_pre, q3, ← hy, List.map_append]; rfl
        have HPA2 := Lib.hid hpa2; have HQ1 := Lib.hid q1; have HQ2 := Lib.hid q2'
        have HL1 := Lib.hid (lineL_one (⟨xa, xb, xh⟩ : Ln))
        have hB3 := ext_alloc hb2 (.cells #[.string xa, .string xb, .bool xh] 74)
        have hB4 := ext_alloc hB3 (.cells #[.string xa, .string xb, .bool xh] 74)
        have hR4 := HR.out.keep hB4
        have hNW := news_any (w2.alloc (.cells #[.string xa, .string xb, .bool xh] 74)) [.string xa, .string xb, .bool xh] 74
        rw [World.size_alloc] at hNW
        have HNW := Lib.hid hNW; have HR4 := Lib.hid hR4; have HB4 := Lib.hid (ext_trans HB.out hB4)
        clear hNW hR4 hB4 hB3 hb2 hpa2 hr q1 q2 q2' q3 hq hy
        dsimp only [lineL]
        go_wp2_with (at_builtin; refine wpList_append_elem _ rfl _ _ 39 rfl 74 i0 (.agg #[.string ⟨#[]⟩, .string ⟨#[]⟩, .bool false]) 3 40 Tryz.underlying39 hi hz0 hz1 hz2 rfl (by decide) (.slice VA ls.length vc) ls.length (rowC ls) rfl HR4.out ⟨w2.heap.size + 1, 0, none⟩ 1 [.string xa, .string xb, .bool xh] rfl rfl HNW.out HL1.out (by have := HLP.out; unfold maxLen; omega) (by have := HLP.out; omega) ?_; intro g2 cp2 w5 hr5 hg5; have HR5 := Lib.hid hr5; have HG5 := Lib.hid hg5; clear hr5 hg5)
        go_roundw
        case rel =>
          have hr5 := HR5.out
          have hrs : setL (rowC ls) ls.length [.string xa, .string xb, .bool xh] = rowC (ls ++ [⟨xa, xb, xh⟩]) := rowC_snoc ls ⟨xa, xb, xh⟩
          rw [hrs] at hr5
          have hB5 : Below w.heap.size w w5 := HB4.out.grown HG5.out HB4.out.size (fun j hj => HR4.out.block j hj)
          have hq1 := HQ1.out; have hq2 := HQ2.out; have hf := HF.out; have hl := HLP.out
          refine ⟨q, f - 1, ls ++ [⟨xa, xb, xh⟩], some ⟨g2, 0, none⟩, cp2, hq2, by omega, by rw [List.length_append]; simp; omega, rfl, by rw [List.length_append]; rfl, ?_, hB5, ?_⟩
          · rw [List.length_append]
            exact hr5.mono (fun g hg2 _ => by
              have h9 := HB4.out.size
              rcases hg2 with h8 | h8
              · exact h8
              · show w.heap.size ≤ g
                rw [h8]; omega)
          · rw [HPA2.out, show f - 1 + 1 = f by omega, List.length_append]; rfl
        case measure => have := HQ1.out; simp [intOf]; omega
    · obtain rfl : p = s.size := by omega
      have hd : s.data.toList.drop s.size = [] := List.drop_of_length_le (by rw [← Lib.size_eq]; exact Nat.le_refl _)
      have hfin : parse (readR okA okB) (s.size + 1) 0 s.data.toList = (ls.map trip, 0) := by rw [HPA.out, hd]; simp [parse, pre]
      have HFIN := Lib.hid hfin
      clear hd hfin
      go_wp2_with fail
      go_ret3
      exact ⟨.inl ⟨ls, _, HFIN.out, rfl, HR.out⟩, HB.out⟩

/-- the program's reading is the reference's -/
theorem parse_ref (s : ByteArray) : parse (readR okA okB) (s.size + 1) 0 s.data.toList = sumL 0 (linesL s.data.toList) := by
  rw [parse_same (read_same (fun a h => (okA_ne h).1) (fun b h => (okB_ne h).1)), parse_sum _ _ _ (by rw [← Lib.size_eq]; omega)]

end Go.Proofs.YtpoijhjjbmaedaaGreatDoor.Man
