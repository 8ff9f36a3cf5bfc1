/- Packed: Bld Man1 Man2 Man3 -/
import Derived.Test.YtpoijhjjbmaedaaGreatDoorKitA
import Derived.Test.YtpoijhjjbmaedaaGreatDoorShelf
import Derived.Lib.Builder
import Derived.Test.YtpoijhjjbmaedaaGreatDoorPlainA
import Derived.Test.YtpoijhjjbmaedaaGreatDoorBookB
import Derived.Test.YtpoijhjjbmaedaaGreatDoorCabB
import Derived.Test.YtpoijhjjbmaedaaGreatDoorCabA
set_option linter.unusedVariables false
set_option linter.unusedSimpArgs false
/- Bld: strings.Builder as the manifest uses it: copyCheck, WriteString, WriteByte. -/
section
namespace Go.Proofs.YtpoijhjjbmaedaaGreatDoor.Bld
open Go.RowKit

def BT : TypeId := 98
/-- a builder at b that holds the bytes l -/
def At (B b : Nat) (l : List UInt8) (w : World) : Prop := Lib.IsBuilder 98 5 B b (Lib.byteCells l) w
theorem At.fresh (w : World) (B : Nat) (hB : B ≤ w.heap.size) : At B w.heap.size [] (w.alloc (.cells #[.pointer none, .slice none 0 0] 98)) :=
  .inl ⟨hB, .slice none 0 0, heap_alloc_new w _, World.ownsRow_nil _ _ _ _, by simp [Value.ownBlock]⟩
theorem At.base {B b : Nat} {l : List UInt8} {w : World} (h : At B b l w) : B ≤ b ∧ b < w.heap.size := by
  rcases h with ⟨h1, v, h2, _⟩ | ⟨h1, v, h2, _⟩ <;> exact ⟨h1, (Array.getElem?_eq_some_iff.1 h2).1⟩
theorem At.keep {B b : Nat} {l : List UInt8} {w w' : World} (h : At B b l w) (hb : Below w.heap.size w w') : At B b l w' := by
  have key : ∀ p, Lib.BuilderAt 98 5 B b p (Lib.byteCells l) w → Lib.BuilderAt 98 5 B b p (Lib.byteCells l) w' := by
    rintro p ⟨h1, v, h2, h3, h4⟩
    exact ⟨h1, v, (hb.block b (Array.getElem?_eq_some_iff.1 h2).1).trans h2, own_keep h3 hb, h4⟩
  exact h.imp (key _) (key _)
theorem bld_info0 : (Tryz.prog.info? 98).map (fun i => (i.zero, i.size, i.bytes)) = some (some (.agg #[.pointer none, .slice none 0 0]), 2, 32) := by kernel_rfl
theorem bld_info : ∃ j, Tryz.prog.info? 98 = some j ∧ j.size ≠ 0 := by
  obtain ⟨i0, hi, _, hz1, _⟩ := info_parts bld_info0
  exact ⟨i0, hi, by rw [hz1]; decide⟩
theorem conv_to (b : Nat) (cs : Array Value) (W : World) (h : Arr W b 98 cs) (hs : 0 < cs.size) : (convert 95 283 (.pointer (some ⟨b, 0, none⟩))).run Tryz.prog W = .ok (.pointer (some ⟨b, 0, none⟩)) W := by
  obtain ⟨j, h1, h2⟩ := bld_info
  exact Lib.run_to_unsafe W (e := 98) (cells := cs.size) ⟨b, 0, none⟩ Tryz.underlying95 Tryz.underlying283 h1 h2 (by rw [Arr] at h; simp [World.shape?, h]) hs
theorem conv_fro (b : Nat) (x y : Value) (W : World) (h : Arr W b 98 #[x, y]) : (convert 283 95 (.pointer (some ⟨b, 0, none⟩))).run Tryz.prog W = .ok (.pointer (some ⟨b, 0, none⟩)) W := by
  obtain ⟨j, h1, h2⟩ := bld_info
  exact Lib.run_from_unsafe W (e := 98) (cells := 2) ⟨b, 0, none⟩ Tryz.underlying283 Tryz.underlying95 h1 (by rw [Arr] at h; simp [World.shape?, h]) (by kernel_rfl)
theorem no_escape (b : Nat) (W : World) : (callFunc 168 #[.pointer (some ⟨b, 0, none⟩)]).run Tryz.prog W = .ok (.value (.pointer (some ⟨b, 0, none⟩))) W := by kernel_rfl
theorem ptr_same (b : Nat) (W : World) : (binOp BinOp.neq 95 (.pointer (some ⟨b, 0, none⟩)) (.pointer (some ⟨b, 0, none⟩))).run Tryz.prog W = .ok (.bool false) W := by
  obtain ⟨j, h1, _⟩ := bld_info
  exact Lib.run_neq_ptr_same W ⟨b, 0, none⟩ Tryz.underlying95 h1
set_option maxRecDepth 100000 in
set_option maxHeartbeats 1000000 in
theorem copyCheck_in (b : Nat) (p : Option Addr) (v : Value) (w : World) (h : Arr w b 98 #[.pointer p, v]) (hp : p = none ∨ p = some ⟨b, 0, none⟩) : Calls Tryz.prog 136 #[.pointer (some ⟨b, 0, none⟩)] w fun e w' => (∃ v, e = .returned v) ∧ Arr w' b 98 #[.pointer (some ⟨b, 0, none⟩), v] ∧ Tch (· = b) w w' := by
  have x0 : w.cell? ⟨b, 0, none⟩ = some (.pointer p) := h.cell 0
  have m0 := h.mark 0
  have hbl := h.lt
  have HH := Lib.hid h
  have hc1 := conv_to b _ w h (show 0 < 2 by decide)
  have hc2 := conv_fro b _ _ w h
  have hne := no_escape b
  have hps := ptr_same b
  clear h
  rcases hp with rfl | rfl
  · go_enter Tryz.func136, Tryz.ntmps136
    go_wp2_with fail
    exact bodyPost_end (results_none Tryz.results136 _ _ _) rfl ⟨⟨_, rfl⟩, HH.out.put 0 _, (Tch.refl (fun k => k = b) w).put (p := ⟨b, 0, none⟩) (.inl rfl) _⟩
  · go_enter Tryz.func136, Tryz.ntmps136
    go_wp2_with fail
    exact bodyPost_end (results_none Tryz.results136 _ _ _) rfl ⟨⟨_, rfl⟩, HH.out, Tch.refl _ _⟩
theorem u8_info : (Tryz.prog.info? 5).map (fun i => (i.zero, i.size, i.bytes)) = some (some (.int .u8 0), 1, 1) := by kernel_rfl
theorem At.parts {B b : Nat} {l : List UInt8} {w : World} (h : At B b l w) : ∃ p v, Arr w b 98 #[.pointer p, v] ∧ (p = none ∨ p = some ⟨b, 0, none⟩) ∧ w.ownsRow B 5 1 v l.length (Lib.byteCells l) ∧ B ≤ b := by
  rcases h with ⟨h1, v, h2, h3, _⟩ | ⟨h1, v, h2, h3, _⟩
  · rw [Lib.byteCells_length] at h3
    exact ⟨none, v, h2, .inl rfl, h3, h1⟩
  · rw [Lib.byteCells_length] at h3
    exact ⟨_, v, h2, .inr rfl, h3, h1⟩
theorem own_ne {w : World} {b B n sz : Nat} {e t : TypeId} {v : Value} {xs : List Value} {cs : Array Value} (h : w.ownsRow B e sz v n xs) (ha : Arr w b t cs) (ht : t ≠ e) : v.ownBlock ≠ some b := by
  intro hg
  rcases h.2 with ⟨hv, _⟩ | ⟨g', cap', cur, hv, _, hh, _⟩
  · subst hv; simp [Value.ownBlock] at hg
  · subst hv
    have e1 : g' = b := by simpa [Value.ownBlock] using hg
    subst e1
    rw [Arr] at ha
    rw [ha] at hh
    injection hh with hh
    injection hh with _ h2
    exact ht h2
theorem At.of {B b : Nat} {l : List UInt8} {v : Value} {w : World} (h : Arr w b 98 #[.pointer (some ⟨b, 0, none⟩), v]) (ho : w.ownsRow B 5 1 v l.length (Lib.byteCells l)) (hB : B ≤ b) : At B b l w :=
  .inr ⟨hB, v, h, by rw [Lib.byteCells_length]; exact ho, own_ne ho h (by decide)⟩
set_option maxRecDepth 100000 in
set_option maxHeartbeats 1000000 in
theorem WriteString_in (B b : Nat) (l : List UInt8) (s : ByteArray) (w : World) (h : At B b l w) (hl : l.length + s.size ≤ 140737488355328) : Calls Tryz.prog 94 #[.pointer (some ⟨b, 0, none⟩), .string s] w fun e w' => (∃ v, e = .returned v) ∧ At B b (l ++ s.data.toList) w' ∧ Below B w w' := by
  obtain ⟨p, v, hA, hp, ho, hB⟩ := h.parts
  obtain ⟨i0, hi, hz0, hz1, hz2⟩ := info_parts u8_info
  have hbl := hA.lt
  have HC := Lib.hid (copyCheck_in b p v w hA hp)
  have HO := Lib.hid ho
  have HL := Lib.hid hl
  have HA := Lib.hid hA
  clear h hA hp ho hl
  go_enter Tryz.func94, Tryz.ntmps94
  go_wp2_with fail
  refine HC.out.mono ?_
  rintro e w1 ⟨⟨u, rfl⟩, hA1, hT1⟩
  have ho1 := own_same HO.out fun g hg => hT1.block g (own_lt HO.out hg).1 (fun e => own_ne HO.out HA.out (by decide) (by rw [hg, e]))
  have x1 : w1.cell? ⟨b, 1, none⟩ = some v := hA1.cell 1
  have m1 := hA1.mark 1
  have hbl1 := hA1.lt
  have HA1 := Lib.hid hA1; have HT1 := Lib.hid hT1; have HO1 := Lib.hid ho1
  clear hA1 hT1 ho1
  obtain ⟨A, c, hv⟩ := own_slice HO1.out
  subst hv
  go_wp2_with (at_builtin; refine Lib.wpList_append_own_string _ rfl (.tmp 12) (.tmp 13) 96 9 rfl B 5 i0 Tryz.underlying96 Tryz.underlying9 hi hz0 hz1 hz2 (.slice A l.length c) l.length _ rfl HO1.out s rfl (by have := HL.out; unfold maxLen; omega) HL.out (by have := HA1.out.lt; omega) ?_; intro v' w2 ho2 hg2 hn2; obtain ⟨A2, c2, rfl⟩ := own_slice ho2; have hA2 := (hg2.block b HA1.out.lt (fun e => own_ne HO1.out HA1.out (by decide) e.symm)).trans HA1.out; have x1 : w2.cell? ⟨b, 1, none⟩ = some (.slice A l.length c) := Arr.cell hA2 1; have m1 := Arr.mark hA2 1; have hbl2 := Arr.lt hA2; have HA2 := Lib.hid hA2; have HO2 := Lib.hid ho2; have HG2 := Lib.hid hg2; clear hA2 ho2 hg2 hn2)
  go_ret2
  have hfin : Arr (w2.setCell ⟨b, 1, none⟩ (.slice A2 (l.length + s.size) c2)) b 98 #[.pointer (some ⟨b, 0, none⟩), .slice A2 (l.length + s.size) c2] := Arr.put HA2.out 1 _
  have e1 : Lib.byteCells l ++ Lib.strCells s = Lib.byteCells (l ++ s.data.toList) := by rw [Lib.strCells_eq, Lib.byteCells_append]
  have e2 : (l ++ s.data.toList).length = l.length + s.size := by rw [List.length_append, Array.length_toList]; rfl
  have ho2 := HO2.out
  rw [e1, ← e2] at ho2
  rw [← e2] at hfin ⊢
  refine ⟨⟨_, rfl⟩, At.of hfin (own_same ho2 fun g hg => Below.heap_setCell w2 ⟨b, 1, none⟩ _ g (fun e => own_ne ho2 HA2.out (by decide) (by rw [hg, e]))) hB, ?_⟩
  have t1 : Below B w w1 := ⟨HT1.out.os, HT1.out.tape, HT1.out.output, HT1.out.size, fun k hk => HT1.out.block k (by have := HA.out.lt; omega) (by omega)⟩
  have t2 : Below B w w2 := t1.grown HG2.out (by have := HA1.out.lt; omega) (fun k hk => (own_lt HO1.out hk).2)
  exact t2.setCell (p := ⟨b, 1, none⟩) hB _
theorem one10 : ∀ u ∈ [Value.int .u8 10], u.oneCell' = true := by
  intro u hu
  rw [List.mem_singleton.1 hu]; rfl
set_option maxRecDepth 100000 in
set_option maxHeartbeats 1000000 in
theorem WriteNl_in (B b : Nat) (l : List UInt8) (w : World) (h : At B b l w) (hl : l.length + 1 ≤ 140737488355328) : Calls Tryz.prog 96 #[.pointer (some ⟨b, 0, none⟩), .int .u8 10] w fun e w' => (∃ v, e = .returned v) ∧ At B b (l ++ [10]) w' ∧ Below B w w' := by
  obtain ⟨p, v, hA, hp, ho, hB⟩ := h.parts
  obtain ⟨i0, hi, hz0, hz1, hz2⟩ := info_parts u8_info
  have hbl := hA.lt
  have HC := Lib.hid (copyCheck_in b p v w hA hp)
  have HO := Lib.hid ho
  have HL := Lib.hid hl
  have HA := Lib.hid hA
  clear h hA hp ho hl
  go_enter Tryz.func96, Tryz.ntmps96
  go_wp2_with fail
  refine HC.out.mono ?_
  rintro e w1 ⟨⟨u, rfl⟩, hA1, hT1⟩
  have ho1 := own_same HO.out fun g hg => hT1.block g (own_lt HO.out hg).1 (fun e => own_ne HO.out HA.out (by decide) (by rw [hg, e]))
  have x1 : w1.cell? ⟨b, 1, none⟩ = some v := hA1.cell 1
  have hbl1 := hA1.lt
  have HA1 := Lib.hid hA1; have HT1 := Lib.hid hT1; have HO1 := Lib.hid ho1
  clear hA1 hT1 ho1
  obtain ⟨A, c, hv⟩ := own_slice HO1.out
  subst hv
  have q1 : (w1.alloc (.cells #[.int .u8 10] 5)).ownsRow B 5 1 (.slice A l.length c) l.length (Lib.byteCells l) := own_alloc HO1.out _
  have q2 : ∀ j u, [Value.int .u8 10][j]? = some u → (w1.alloc (.cells #[.int .u8 10] 5)).cell? ((⟨w1.heap.size, 0, none⟩ : Addr).add j) = some u := cell_one_new w1 _ _
  have q3 : l.length + 1 ≤ maxLen := by have := HL.out; unfold maxLen; omega
  have q4 : (l.length + 1) * 1 ≤ 140737488355328 := by have := HL.out; omega
  have q5 : B ≤ (w1.alloc (.cells #[.int .u8 10] 5)).heap.size := by have := HA1.out.lt; simp; omega
  have hb5 := HA1.out.alloc (.cells #[.int .u8 10] 5)
  have Q1 := Lib.hid q1; have Q2 := Lib.hid q2; have Q3 := Lib.hid q3; have Q4 := Lib.hid q4; have Q5 := Lib.hid q5; have HB5 := Lib.hid hb5
  clear q1 q2 q3 q4 q5 hb5
  go_wp2_with (at_builtin; refine wpList_append_own _ rfl (.tmp 11) (.tmp 13) 96 rfl B 5 i0 (.int .u8 0) 1 1 Tryz.underlying96 hi hz0 hz1 hz2 rfl (by decide) (.slice A l.length c) l.length _ rfl Q1.out ⟨w1.heap.size, 0, none⟩ 1 1 [.int .u8 10] rfl rfl Q2.out one10 Q3.out Q4.out Q5.out ?_; intro v' w2 ho2 hg2 hn2; obtain ⟨A2, c2, rfl⟩ := own_slice ho2; have hA2 := (hg2.block b HB5.out.lt (fun e => own_ne Q1.out HB5.out (by decide) e.symm)).trans HB5.out; have x1 : w2.cell? ⟨b, 1, none⟩ = some (.slice A l.length c) := Arr.cell hA2 1; have m1 := Arr.mark hA2 1; have hbl2 := Arr.lt hA2; have HA2 := Lib.hid hA2; have HO2 := Lib.hid ho2; have HG2 := Lib.hid hg2; clear hA2 ho2 hg2 hn2)
  go_ret
  have hfin : Arr (w2.setCell ⟨b, 1, none⟩ (.slice A2 (l.length + 1) c2)) b 98 #[.pointer (some ⟨b, 0, none⟩), .slice A2 (l.length + 1) c2] := Arr.put HA2.out 1 _
  have e1 : Lib.byteCells l ++ [.int .u8 10] = Lib.byteCells (l ++ [10]) := by rw [Lib.byteCells_append]; rfl
  have e2 : (l ++ [(10 : UInt8)]).length = l.length + 1 := by simp
  have ho2 := HO2.out
  rw [e1, ← e2] at ho2
  rw [← e2] at hfin ⊢
  refine ⟨⟨_, rfl⟩, At.of hfin (own_same ho2 fun g hg => Below.heap_setCell w2 ⟨b, 1, none⟩ _ g (fun e => own_ne ho2 HA2.out (by decide) (by rw [hg, e]))) hB, ?_⟩
  have t1 : Below B w w1 := ⟨HT1.out.os, HT1.out.tape, HT1.out.output, HT1.out.size, fun k hk => HT1.out.block k (by have := HA.out.lt; omega) (by omega)⟩
  have t2 : Below B w w2 := (t1.alloc (by have := HA1.out.lt; omega) _).grown HG2.out (by have := HA1.out.lt; simp; omega) (fun k hk => (own_lt Q1.out hk).2)
  exact t2.setCell (p := ⟨b, 1, none⟩) hB _
theorem String_in (B b : Nat) (l : List UInt8) (w : World) (h : At B b l w) (hB : B ≤ w.heap.size) : Calls Tryz.prog 56 #[.pointer (some ⟨b, 0, none⟩)] w fun e w' => e = .returned (.string ⟨l.toArray⟩) ∧ Below B w w' := Tryz.Builder_String_any B b l w h hB

end Go.Proofs.YtpoijhjjbmaedaaGreatDoor.Bld
end

/- Man1: The manifest's text: put, Text. -/
section
namespace Go.Proofs.YtpoijhjjbmaedaaGreatDoor.Man
open Go.RowKit

structure Ln where
  seat : ByteArray
  code : ByteArray
  held : Bool
def lineL (x : Ln) : List Value := [.string x.seat, .string x.code, .bool x.held]
theorem lineL_len (x : Ln) : (lineL x).length = 3 := rfl
theorem lineL_one (x : Ln) : ∀ u ∈ lineL x, u.oneCell' = true := by
  intro u hu
  simp only [lineL, List.mem_cons, List.not_mem_nil, or_false] at hu
  rcases hu with rfl | rfl | rfl <;> rfl
theorem line_info : (Tryz.prog.info? 74).map (fun i => (i.zero, i.size, i.bytes)) = some (some (.agg #[.string ⟨#[]⟩, .string ⟨#[]⟩, .bool false]), 3, 40) := by kernel_rfl
theorem line_size : (Tryz.prog.info? 74).map (·.size) = some 3 := by kernel_rfl
/-- a list of lines in memory -/
def Lines (w : World) (A : Option Addr) (l : List Ln) : Prop := l ≠ [] → ∃ g off, A = some ⟨g, off, none⟩ ∧ g < w.heap.size ∧ ∀ k, k < l.length → w.rangeAt g (off + k * 3) (lineL (l.getD k ⟨⟨#[]⟩, ⟨#[]⟩, false⟩))
theorem Lines.keep {w w' : World} {A : Option Addr} {l : List Ln} (h : Lines w A l) (hb : Below w.heap.size w w') : Lines w' A l := fun hne => by
  obtain ⟨g, off, h1, h2, h3⟩ := h hne
  exact ⟨g, off, h1, Nat.lt_of_lt_of_le h2 hb.size, fun k hk j v hj => (hb.cell (p := ⟨g, off + k * 3 + j, none⟩) h2).trans (h3 k hk j v hj)⟩
def howB (h : Bool) : ByteArray := if h then ⟨#[104, 101, 108, 100]⟩ else ⟨#[99, 111, 110, 102, 105, 114, 109, 101, 100]⟩
def lineT (x : Ln) : List UInt8 := x.seat.data.toList ++ 32 :: (x.code.data.toList ++ 32 :: ((howB x.held).data.toList ++ [10]))
def txtL (l : List Ln) : List UInt8 := (l.map lineT).flatten
theorem txtL_snoc (l : List Ln) (x : Ln) : txtL (l ++ [x]) = txtL l ++ lineT x := by simp [txtL]
theorem lineT_len (x : Ln) : (lineT x).length ≤ x.seat.size + x.code.size + 12 := by
  have h1 : (howB x.held).data.toList.length ≤ 9 := by unfold howB; split <;> decide
  have h2 : x.seat.data.toList.length = x.seat.size := by rw [Array.length_toList]; rfl
  have h3 : x.code.data.toList.length = x.code.size := by rw [Array.length_toList]; rfl
  unfold lineT
  rw [List.length_append, List.length_cons, List.length_append, List.length_cons, List.length_append, h2, h3]
  simp only [List.length_cons, List.length_nil]
  omega
theorem join3 (a b c : List UInt8) : Lib.join [a, b, c] [32] = a ++ 32 :: (b ++ 32 :: c) := by simp [Lib.join, List.intercalate, List.intersperse]

set_option maxRecDepth 100000 in
set_option maxHeartbeats 1000000 in
theorem put_in (B b g c : Nat) (acc : List UInt8) (s1 s2 s3 : ByteArray) (w : World) (h : Bld.At B b acc w) (hg : g < w.heap.size) (hgb : w.rangeAt g 0 [.string s1, .string s2, .string s3]) (hc : 3 ≤ c)
    (hl : acc.length + (s1.size + s2.size + s3.size + 3) ≤ 140737488355328) (hB : B ≤ w.heap.size) :
    Calls Tryz.prog 55 #[.pointer (some ⟨b, 0, none⟩), .slice (some ⟨g, 0, none⟩) 3 c] w fun e w' => (∃ v, e = .returned v) ∧ Bld.At B b (acc ++ (s1.data.toList ++ 32 :: (s2.data.toList ++ 32 :: (s3.data.toList ++ [10])))) w' ∧ Below B w w' := by
  have z1 : s1.data.toList.length = s1.size := by rw [Array.length_toList]; rfl
  have z2 : s2.data.toList.length = s2.size := by rw [Array.length_toList]; rfl
  have z3 : s3.data.toList.length = s3.size := by rw [Array.length_toList]; rfl
  have hj : Lib.join ([s1, s2, s3].map (·.data.toList)) [32] = s1.data.toList ++ 32 :: (s2.data.toList ++ 32 :: s3.data.toList) := join3 _ _ _
  have hjl : (s1.data.toList ++ 32 :: (s2.data.toList ++ 32 :: s3.data.toList)).length = s1.size + s2.size + s3.size + 2 := by simp only [List.length_append, List.length_cons, z1, z2, z3]; omega
  have HJ : Calls Tryz.prog 95 #[.slice (some ⟨g, 0, none⟩) 3 c, .string ⟨#[32]⟩] w fun e w' => e = .returned (.string ⟨(s1.data.toList ++ 32 :: (s2.data.toList ++ 32 :: s3.data.toList)).toArray⟩) ∧ Below w.heap.size w w' := by
    have := Tryz.strings_Join g 0 c [s1, s2, s3] ⟨#[32]⟩ w (fun j x hx => by
      have h4 := hgb j (.string x) (by
        rcases (show j = 0 ∨ j = 1 ∨ j = 2 ∨ 3 ≤ j by omega) with rfl | rfl | rfl | h3
        · injection hx with hx; rw [← hx]; rfl
        · injection hx with hx; rw [← hx]; rfl
        · injection hx with hx; rw [← hx]; rfl
        · rw [List.getElem?_eq_none (by simpa using h3)] at hx; cases hx)
      exact h4) hg (show 3 ≤ 140737488355328 by decide) hc (by
        show (Lib.join ([s1, s2, s3].map (·.data.toList)) [32]).length ≤ _
        rw [hj, hjl]; omega)
    rw [show Lib.join ([s1, s2, s3].map (·.data.toList)) (⟨#[32]⟩ : ByteArray).data.toList = _ from hj] at this
    exact this
  obtain ⟨J, hJ⟩ : ∃ J : ByteArray, (⟨(s1.data.toList ++ 32 :: (s2.data.toList ++ 32 :: s3.data.toList)).toArray⟩ : ByteArray) = J := ⟨_, rfl⟩
  rw [hJ] at HJ
  have HJJ := Lib.hid hJ
  have hJs : J.size = s1.size + s2.size + s3.size + 2 := by
    rw [← hJ]
    show (List.toArray (s1.data.toList ++ 32 :: (s2.data.toList ++ 32 :: s3.data.toList))).size = _
    rw [List.size_toArray, hjl]
  have HJS := Lib.hid hJs
  have HJ := Lib.hid HJ
  have HH := Lib.hid h
  have HL := Lib.hid hl
  clear h hj hjl hJ hJs hgb hl z1 z2 z3
  go_enter Tryz.func55, Tryz.ntmps55
  go_wp2_with fail
  refine HJ.out.mono ?_
  rintro e w1 ⟨rfl, hb1⟩
  have HH1 := Lib.hid (HH.out.keep hb1)
  have HB1 := Lib.hid (hb1.mono hB)
  have HZ1 := Lib.hid (Nat.le_trans hB hb1.size)
  clear hb1
  go_wp2_with fail
  refine (Bld.WriteString_in B b acc J w1 HH1.out (by have h1 := HL.out; have h2 := HJS.out; omega)).mono ?_
  rintro e w2 ⟨⟨v2, rfl⟩, hw2, hb2⟩
  have HW2 := Lib.hid hw2
  have HB2 := Lib.hid (HB1.out.trans hb2)
  clear hw2 hb2
  go_wp2_with fail
  refine (Bld.WriteNl_in B b (acc ++ J.data.toList) w2 HW2.out (by have h1 := HL.out; have h2 := HJS.out; have h3 : J.data.toList.length = J.size := (by rw [Array.length_toList]; rfl); rw [List.length_append]; omega)).mono ?_
  rintro e w3 ⟨⟨v3, rfl⟩, hw3, hb3⟩
  have HW3 := Lib.hid hw3
  have HB3 := Lib.hid (HB2.out.trans hb3)
  clear hw3 hb3
  go_wp2_with fail
  refine bodyPost_end (results_none Tryz.results55 _ _ _) rfl ⟨⟨_, rfl⟩, ?_, HB3.out⟩
  have h1 := HW3.out
  have h2 : acc ++ J.data.toList ++ [10] = acc ++ (s1.data.toList ++ 32 :: (s2.data.toList ++ 32 :: (s3.data.toList ++ [10]))) := by rw [← HJJ.out]; simp
  rw [h2] at h1
  exact h1

theorem rng_arr {w : World} {g : Nat} {t : TypeId} {cs : Array Value} (h : Arr w g t cs) : w.rangeAt g 0 cs.toList := fun j v hj => by
  rw [Nat.zero_add, h.cell j]
  rw [← hj]; simp
def TextOut (l : List Ln) (w : World) (e : Ending) (w' : World) : Prop := e = .returned (.string ⟨(txtL l).toArray⟩) ∧ Below w.heap.size w w'
def bulk (l : List Ln) : Nat := (l.map fun x => x.seat.size + x.code.size + 12).sum
theorem bulk_take (l : List Ln) (k : Nat) (hk : k < l.length) : (txtL (l.take k)).length + ((l.getD k ⟨⟨#[]⟩, ⟨#[]⟩, false⟩).seat.size + (l.getD k ⟨⟨#[]⟩, ⟨#[]⟩, false⟩).code.size + 12) ≤ bulk l := by
  have h1 : ∀ m : List Ln, (txtL m).length ≤ bulk m := fun m => by
    induction m with
    | nil => simp [txtL, bulk]
    | cons x m ih =>
      have := lineT_len x
      simp only [txtL, bulk, List.map_cons, List.flatten_cons, List.length_append, List.sum_cons] at ih ⊢
      omega
  have h2 : bulk l = bulk (l.take k) + bulk (l.drop k) := by
    rw [bulk, bulk, bulk, ← List.sum_append_nat, ← List.map_append, List.take_append_drop]
  have h3 : l.drop k = l.getD k ⟨⟨#[]⟩, ⟨#[]⟩, false⟩ :: l.drop (k + 1) := by rw [List.drop_eq_getElem_cons hk]; simp [List.getD_eq_getElem?_getD, hk]
  have h4 : bulk (l.drop k) = (l.getD k ⟨⟨#[]⟩, ⟨#[]⟩, false⟩).seat.size + (l.getD k ⟨⟨#[]⟩, ⟨#[]⟩, false⟩).code.size + 12 + bulk (l.drop (k + 1)) := by
    rw [h3]; simp [bulk]
  have := h1 (l.take k)
  omega
set_option maxRecDepth 100000 in
set_option maxHeartbeats 2000000 in
theorem Text_in (l : List Ln) (A : Option Addr) (c : Nat) (w : World) (h : Lines w A l) (hl : l.length ≤ 17592186043904) (hbk : bulk l ≤ 140737488000000) : Calls Tryz.prog 20 #[.slice A l.length c] w (TextOut l w) := by
  have HH := Lib.hid h
  have HBK := Lib.hid hbk
  clear h hbk
  go_enter Tryz.func20, Tryz.ntmps20
  go_wp2_with fail
  have hF := Bld.At.fresh w w.heap.size (Nat.le_refl _)
  have hb1 : Below w.heap.size w (w.alloc (.cells #[.pointer none, .slice none 0 0] 98)) := ext_alloc (Below.refl _ _) _
  obtain ⟨w1, hw1⟩ : ∃ w1, w.alloc (.cells #[.pointer none, .slice none 0 0] 98) = w1 := ⟨_, rfl⟩
  obtain ⟨B, hBe⟩ : ∃ B, w.heap.size = B := ⟨_, rfl⟩
  rw [hw1] at hF hb1 ⊢
  rw [hBe] at hF ⊢
  have HBE := Lib.hid hBe
  clear hw1 hBe
  have hll : (l.length : Int) ≤ 17592186043904 := by omega
  go_loopw [9] (fun iv wr => ∃ k : Nat, k ≤ l.length ∧ iv = .int .i64 k ∧ Bld.At B B (txtL (l.take k)) wr ∧ Below w.heap.size w wr) (fun iv _ => (l.length - intOf iv).toNat)
  case atStart => exact ⟨0, Nat.zero_le _, rfl, hF, hb1⟩
  case round =>
    obtain ⟨k, hk, rfl, hAt, hB⟩ := hrel
    clear hF hb1
    have HAT := Lib.hid hAt; have HB := Lib.hid hB
    clear hAt hB
    by_cases hkl : k < l.length
    · have hk1 : (k : Int) < (l.length : Int) := by omega
      have hk0 : (0 : Int) ≤ (k : Int) := by omega
      have hne : l ≠ [] := fun e => by rw [e] at hkl; simp at hkl
      obtain ⟨g, off, hA, hgl, hrng⟩ := HH.out hne
      subst hA
      have hrg : wr.rangeAt g (off + k * 3) (lineL (l.getD k ⟨⟨#[]⟩, ⟨#[]⟩, false⟩)) := fun j v hj => (HB.out.cell (p := ⟨g, off + k * 3 + j, none⟩) hgl).trans (hrng k hkl j v hj)
      have hbt := bulk_take l k hkl
      have hsn : txtL (l.take (k + 1)) = txtL (l.take k) ++ lineT (l.getD k ⟨⟨#[]⟩, ⟨#[]⟩, false⟩) := by
        rw [List.take_succ_eq_append_getElem hkl, txtL_snoc]; simp [List.getD_eq_getElem?_getD, hkl]
      obtain ⟨x, hx⟩ : ∃ x, l.getD k ⟨⟨#[]⟩, ⟨#[]⟩, false⟩ = x := ⟨_, rfl⟩
      rw [hx] at hrg hbt hsn
      obtain ⟨s, cd, hd⟩ := x
      have hrg' : wr.rangeAt g (off + k * 3) [.string s, .string cd, .bool hd] := hrg
      have HRG := Lib.hid hrg'; have HBT := Lib.hid hbt; have HSN := Lib.hid hsn
      clear hrg hrg' hbt hsn hrng hx hne
      cases hd
      case true =>
        go_wp2_with (refine wpList_load_mid rfl 74 _ rfl g (off + k * 3) rfl [.string s, .string cd, .bool true] _ HRG.out Tryz.underlying74 rfl rfl ?_)
        have hb5 : Below wr.heap.size wr ((wr.alloc (.cells #[.string s, .string cd, .bool true] 74)).alloc (.cells #[.string s, .string cd, .string ⟨#[104, 101, 108, 100]⟩] 9)) := ext_alloc (ext_alloc (Below.refl _ _) _) _
        have hA5 : Arr ((wr.alloc (.cells #[.string s, .string cd, .bool true] 74)).alloc (.cells #[.string s, .string cd, .string ⟨#[104, 101, 108, 100]⟩] 9)) (wr.heap.size + 1) 9 #[.string s, .string cd, .string ⟨#[104, 101, 108, 100]⟩] := Arr.new (by simp)
        have hsz : wr.heap.size + 1 < ((wr.alloc (.cells #[.string s, .string cd, .bool true] 74)).alloc (.cells #[.string s, .string cd, .string ⟨#[104, 101, 108, 100]⟩] 9)).heap.size := by simp
        have hbb := HAT.out.base
        refine (put_in B B (wr.heap.size + 1) 3 (txtL (l.take k)) s cd ⟨#[104, 101, 108, 100]⟩ ((wr.alloc (.cells #[.string s, .string cd, .bool true] 74)).alloc (.cells #[.string s, .string cd, .string ⟨#[104, 101, 108, 100]⟩] 9)) (HAT.out.keep hb5) hsz (rng_arr hA5) (Nat.le_refl _) (by
          have h1 := HBT.out
          have h2 := HBK.out
          have h3 : (⟨#[104, 101, 108, 100]⟩ : ByteArray).size ≤ 9 := by decide
          have h4 : s.size + cd.size + 12 + (txtL (l.take k)).length ≤ bulk l := by have h5 : (txtL (l.take k)).length + (s.size + cd.size + 12) ≤ bulk l := h1; omega
          omega) (by have := hb5.size; omega)).mono ?_
        rintro e w5 ⟨⟨v5, rfl⟩, hw5, hbw5⟩
        have HW5 := Lib.hid hw5
        have HB5 := Lib.hid (HB.out.trans (HBE.out ▸ (Below.trans (hb5.mono (by omega)) hbw5) : Below w.heap.size wr w5))
        clear hb5 hA5 hsz hbb hw5 hbw5 HB HAT
        go_wp2_with fail
        go_roundw
        case rel => exact ⟨k + 1, by omega, by go_num, by rw [HSN.out]; exact HW5.out, HB5.out⟩
        case measure => simp [intOf]; omega
      case false =>
        go_wp2_with (refine wpList_load_mid rfl 74 _ rfl g (off + k * 3) rfl [.string s, .string cd, .bool false] _ HRG.out Tryz.underlying74 rfl rfl ?_)
        have hb5 : Below wr.heap.size wr ((wr.alloc (.cells #[.string s, .string cd, .bool false] 74)).alloc (.cells #[.string s, .string cd, .string ⟨#[99, 111, 110, 102, 105, 114, 109, 101, 100]⟩] 9)) := ext_alloc (ext_alloc (Below.refl _ _) _) _
        have hA5 : Arr ((wr.alloc (.cells #[.string s, .string cd, .bool false] 74)).alloc (.cells #[.string s, .string cd, .string ⟨#[99, 111, 110, 102, 105, 114, 109, 101, 100]⟩] 9)) (wr.heap.size + 1) 9 #[.string s, .string cd, .string ⟨#[99, 111, 110, 102, 105, 114, 109, 101, 100]⟩] := Arr.new (by simp)
        have hsz : wr.heap.size + 1 < ((wr.alloc (.cells #[.string s, .string cd, .bool false] 74)).alloc (.cells #[.string s, .string cd, .string ⟨#[99, 111, 110, 102, 105, 114, 109, 101, 100]⟩] 9)).heap.size := by simp
        have hbb := HAT.out.base
        refine (put_in B B (wr.heap.size + 1) 3 (txtL (l.take k)) s cd ⟨#[99, 111, 110, 102, 105, 114, 109, 101, 100]⟩ ((wr.alloc (.cells #[.string s, .string cd, .bool false] 74)).alloc (.cells #[.string s, .string cd, .string ⟨#[99, 111, 110, 102, 105, 114, 109, 101, 100]⟩] 9)) (HAT.out.keep hb5) hsz (rng_arr hA5) (Nat.le_refl _) (by
          have h1 := HBT.out
          have h2 := HBK.out
          have h3 : (⟨#[99, 111, 110, 102, 105, 114, 109, 101, 100]⟩ : ByteArray).size ≤ 9 := by decide
          have h4 : s.size + cd.size + 12 + (txtL (l.take k)).length ≤ bulk l := by have h5 : (txtL (l.take k)).length + (s.size + cd.size + 12) ≤ bulk l := h1; omega
          omega) (by have := hb5.size; omega)).mono ?_
        rintro e w5 ⟨⟨v5, rfl⟩, hw5, hbw5⟩
        have HW5 := Lib.hid hw5
        have HB5 := Lib.hid (HB.out.trans (HBE.out ▸ (Below.trans (hb5.mono (by omega)) hbw5) : Below w.heap.size wr w5))
        clear hb5 hA5 hsz hbb hw5 hbw5 HB HAT
        go_wp2_with fail
        go_roundw
        case rel => exact ⟨k + 1, by omega, by go_num, by rw [HSN.out]; exact HW5.out, HB5.out⟩
        case measure => simp [intOf]; omega
    · obtain rfl : k = l.length := by omega
      go_wp2_with fail
      refine (Bld.String_in B B _ _ HAT.out (by have := HAT.out.base; omega)).mono ?_
      rintro e w5 ⟨rfl, hb5⟩
      have HB5 := Lib.hid (HB.out.trans (HBE.out ▸ hb5))
      clear hb5
      go_wp2_with fail
      go_ret
      exact ⟨by simp, HB5.out⟩

end Go.Proofs.YtpoijhjjbmaedaaGreatDoor.Man
end

/- Man2: The kit's SameLines: two lists of the same lines. -/
section
namespace Go.Proofs.YtpoijhjjbmaedaaGreatDoor.Man
open Go.RowKit

theorem drewN_cell (w : World) (n : Nat) (p : Addr) : (w.drewN n).cell? p = w.cell? p := rfl
set_option maxRecDepth 100000 in
set_option maxHeartbeats 2000000 in
theorem SameLines_in (l : List Ln) (A B : Option Addr) (c d : Nat) (w : World) (hI : Lines w A l) (hJ : Lines w B l) (hlen : l.length ≤ 17592186043904) :
    Calls Tryz.prog 18 #[.slice A l.length c, .slice B l.length d] w fun e w' => e = .returned (.bool true) ∧ Below w.heap.size w w' := by
  have HI := Lib.hid hI; have HJ := Lib.hid hJ
  clear hI hJ
  go_enter Tryz.func18, Tryz.ntmps18
  go_wp2_with fail
  go_loopw [5] (fun i wr => ∃ k n : Nat, k ≤ l.length ∧ i = .int .i64 k ∧ wr = w.drewN n) (fun i _ => (l.length - intOf i).toNat)
  case atStart => exact ⟨0, 0, by omega, rfl, rfl⟩
  case round =>
    obtain ⟨k, n, hk, rfl, rfl⟩ := hrel
    by_cases h : k < l.length
    · have hne : l ≠ [] := by intro e; subst e; simp at h
      obtain ⟨g, off, hA, hgl, hr⟩ := HI.out hne
      obtain ⟨g2, off2, hB, hgl2, hr2⟩ := HJ.out hne
      subst hA hB
      have q := hr k h
      have q2 := hr2 k h
      obtain ⟨x, hx⟩ : ∃ x, l.getD k ⟨⟨#[]⟩, ⟨#[]⟩, false⟩ = x := ⟨_, rfl⟩
      rw [hx] at q q2
      obtain ⟨s, cd, hd⟩ := x
      have y0 : w.cell? ⟨g, off + k * 3, none⟩ = some (.string s) := q 0 _ rfl
      have y1 : w.cell? ⟨g, off + k * 3 + 1, none⟩ = some (.string cd) := q 1 _ rfl
      have y2 : w.cell? ⟨g, off + k * 3 + 2, none⟩ = some (.bool hd) := q 2 _ rfl
      have z0 : w.cell? ⟨g2, off2 + k * 3, none⟩ = some (.string s) := q2 0 _ rfl
      have z1 : w.cell? ⟨g2, off2 + k * 3 + 1, none⟩ = some (.string cd) := q2 1 _ rfl
      have z2 : w.cell? ⟨g2, off2 + k * 3 + 2, none⟩ = some (.bool hd) := q2 2 _ rfl
      have h0 : (0 : Int) ≤ (k : Int) := by omega
      have h9 : (k : Int) < (l.length : Int) := by omega
      clear q q2 hr hr2 hx hne
      go_wp2_with fail
      refine wp_region_quiet_lit (by kernel_rfl) (by kernel_rfl) ?_
      repeat (first | go_big_quiet_step ((fail)) | quiet_step ((fail)))
      refine wpQuiet_nil ?_
      intro _ hw'
      obtain ⟨nq, hw''⟩ := hw'
      subst hw''
      go_wp2_with fail
      go_roundw
      case rel => exact ⟨k + 1, _, by omega, by go_num, rfl⟩
      case measure => simp [intOf]; omega
    · obtain rfl : k = l.length := by omega
      go_wp2_with fail
      go_ret
      exact ⟨rfl, ext_drewN (Below.refl _ _) _⟩

end Go.Proofs.YtpoijhjjbmaedaaGreatDoor.Man
end

/- Man3: The manifest: Of. -/
section
namespace Go.Proofs.YtpoijhjjbmaedaaGreatDoor.Man
open Go.RowKit
open Go.Proofs.YtpoijhjjbmaedaaGreatDoor.Bit (hasB)
open Go.Proofs.YtpoijhjjbmaedaaGreatDoor.Bk (BookAt Parts Bkg Comp)

def d0 : Ln := ⟨⟨#[]⟩, ⟨#[]⟩, false⟩
def lineAt (wd : Int) (i : Nat) (x : Bkg) : Ln := ⟨⟨(Cab.seatT ((i : Int) / wd).toNat ((i : Int) % wd).toNat).toArray⟩, ⟨(Cod.txt x.id.toNat).toArray⟩, !(x.til == 0)⟩
def linesTo (wd : Int) (ws : Nat → Nat) (sb : Nat → Bkg) : Nat → List Ln
  | 0 => []
  | k + 1 => if hasB ws k = true then linesTo wd ws sb k ++ [lineAt wd k (sb k)] else linesTo wd ws sb k
theorem linesTo_len (wd : Int) (ws : Nat → Nat) (sb : Nat → Bkg) : ∀ k, (linesTo wd ws sb k).length ≤ k
  | 0 => Nat.le_refl _
  | k + 1 => by
    have := linesTo_len wd ws sb k
    rw [linesTo]
    split
    · simp; omega
    · omega
def rowC (l : List Ln) (i : Nat) : List Value := lineL (l.getD i d0)
theorem rowC_len (l : List Ln) (i : Nat) : (rowC l i).length = 3 := rfl
theorem rowC_snoc (l : List Ln) (x : Ln) : setL (rowC l) l.length (lineL x) = rowC (l ++ [x]) := by
  funext i
  unfold setL rowC
  by_cases h : i = l.length
  · subst h; simp
  · rw [if_neg h]
    congr 1
    rcases Nat.lt_or_ge i l.length with h1 | h1
    · simp [List.getD_eq_getElem?_getD, List.getElem?_append_left h1]
    · rw [List.getD_eq_getElem?_getD, List.getD_eq_getElem?_getD, List.getElem?_eq_none h1, List.getElem?_eq_none (by simp; omega)]
def OfOut (ls : List Ln) (w : World) (e : Ending) (w' : World) : Prop := ∃ v, e = .returned (.tuple #[v, .int .i64 0]) ∧ RowIn (fun k => w.heap.size ≤ k) w' 74 3 v ls.length (rowC ls) ∧ Below w.heap.size w w'
theorem shape_field (a b c : Int) (W : World) : (Instr.field 26 (.agg #[.int .i64 a, .int .i64 b, .int .i64 c]) 0).run Tryz.prog W = .ok (.int .i64 a) W := by kernel_rfl
set_option maxRecDepth 100000 in
set_option maxHeartbeats 4000000 in
theorem Of_in (S : Nat → Prop) (b n codes : Nat) (group next clock : Int) (L : List Bkg) (q : Parts) (r wd : Int) (zs : List Int) (A : Option Addr) (c : Nat) (w : World) (h : BookAt S w b n codes group next clock L q) (hI : Cab.Ints w A zs) (hlen : zs.length ≤ 20000000000000) (hok : Cab.okC r wd zs = true) (hn : (n : Int) = r * wd) (ht : Cod.Tab w)
    (hids : ∀ x ∈ L, 0 ≤ x.id ∧ x.id < 4294967296) :
    Calls Tryz.prog 15 #[.agg #[.int .i64 r, .int .i64 wd, .slice A zs.length c], .pointer (some ⟨b, 0, none⟩)] w (OfOut (linesTo wd q.ws q.sb n) w) := by
  obtain ⟨i0, hi, hz0, hz1, hz2⟩ := info_parts line_info
  have hsf := shape_field
  have hn2 := h.small.2.2.2
  have hb1 : Below w.heap.size w (w.alloc (.cells #[.int .i64 r, .int .i64 wd, .slice A zs.length c] 24)) := ext_alloc (Below.refl _ _) _
  have HH := Lib.hid h
  have HI := Lib.hid hI
  have HTB := Lib.hid ht
  have HIDS := Lib.hid hids
  have HOK := Lib.hid hok
  have HNN := Lib.hid hn
  clear h hI hok ht hids hb1 hn
  go_enter Tryz.func15, Tryz.ntmps15
  go_wp2_with fail
  have hb1 : Below w.heap.size w (w.alloc (.cells #[.int .i64 r, .int .i64 wd, .slice A zs.length c] 24)) := ext_alloc (Below.refl _ _) _
  have hA1 := Arr.fresh w 24 #[.int .i64 r, .int .i64 wd, .slice A zs.length c]
  obtain ⟨w1, hw1⟩ : ∃ w1, w.alloc (.cells #[.int .i64 r, .int .i64 wd, .slice A zs.length c] 24) = w1 := ⟨_, rfl⟩
  obtain ⟨cb, hcb⟩ : ∃ cb, w.heap.size = cb := ⟨_, rfl⟩
  rw [hw1] at hb1 hA1 ⊢
  have HB1 := Lib.hid hb1
  rw [hcb] at hA1 ⊢
  have HCB := Lib.hid hcb
  clear hw1 hcb
  refine (Cab.Seats_yes r wd zs A c w1 (HI.out.keep hb1) hlen HOK.out).mono ?_
  rintro e w2 ⟨rfl, hb2⟩
  rw [← HNN.out]
  have HA2 := Lib.hid (hA1.keep hb2)
  have HB2 := Lib.hid (ext_trans HB1.out hb2)
  clear hb1 hb2 hA1 HB1
  go_wp2_with fail
  refine (Bk.Shape_in (HH.out.comp.below HB2.out)).mono ?_
  rintro e w3 ⟨rfl, hb3⟩
  have HA3 := Lib.hid (HA2.out.keep hb3)
  have HB3 := Lib.hid (ext_trans HB2.out hb3)
  have hnz : ¬ (n : Int) = 0 := by omega
  have hnzb : ((n : Int) == 0) = false := by simp; omega
  clear hb3 HA2 HB2
  go_wp2_with fail
  refine (Bk.Shape_in (HH.out.comp.below HB3.out)).mono ?_
  rintro e w4 ⟨rfl, hb4⟩
  have HA4 := Lib.hid (HA3.out.keep hb4)
  have HB4 := Lib.hid (ext_trans HB3.out hb4)
  have hnn : ((n : Int) != (n : Int)) = false := by simp
  clear hb4 HA3 HB3
  go_wp2_with fail
  go_loopw [8, 35] (fun v iv wr => ∃ (k : Nat) (vc : Nat) (VA : Option Addr), k ≤ n ∧ iv = .int .i64 k ∧ v = .slice VA (linesTo wd q.ws q.sb k).length vc ∧ RowIn (fun j => w.heap.size < j) wr 74 3 (.slice VA (linesTo wd q.ws q.sb k).length vc) (linesTo wd q.ws q.sb k).length (rowC (linesTo wd q.ws q.sb k)) ∧ Arr wr cb 24 #[.int .i64 r, .int .i64 wd, .slice A zs.length c] ∧ Below w.heap.size w wr) (fun _ iv _ => (n - intOf iv).toNat)
  case atStart => exact ⟨0, 0, none, Nat.zero_le _, rfl, rfl, RowIn.nil _ _ _ _ _, HA4.out, HB4.out⟩
  case round =>
    obtain ⟨k, vc, VA, hk, rfl, rfl, hR, hA, hB⟩ := hrel
    clear HA4 HB4
    have HR := Lib.hid hR; have HA := Lib.hid hA; have HB := Lib.hid hB
    clear hR hA hB
    have hlk := linesTo_len wd q.ws q.sb k
    obtain ⟨ls, hls⟩ : ∃ ls, linesTo wd q.ws q.sb k = ls := ⟨_, rfl⟩
    rw [hls] at HR hlk ⊢
    have HLE := Lib.hid hls
    clear hls
    by_cases hkl : k < n
    · have hk1 : (k : Int) < (n : Int) := by omega
      have hk0 : (0 : Int) ≤ (k : Int) := by omega
      have HLS := Lib.hid (show ls.length ≤ 1024 by omega)
      have hc5 := HH.out.comp.below HB.out
      cases hv : hasB q.ws k
      case false =>
        have hAt := Bk.At_none hc5 k hkl hn2.2 hv
        have HAT := Lib.hid hAt
        have HSTEP := Lib.hid (show linesTo wd q.ws q.sb (k + 1) = ls from by rw [linesTo, hv]; exact HLE.out)
        clear hAt hc5 hv
        go_wp2_with fail
        refine HAT.out.mono ?_
        rintro e w5 ⟨rfl, hb5⟩
        have hbn : Below wr.heap.size wr (w5.alloc (.cells #[.int .u32 0, .int .i64 0, .int .i64 0] 78)) := ext_alloc hb5 _
        have HR5 := Lib.hid (HR.out.keep hbn)
        have HA5 := Lib.hid (HA.out.keep hbn)
        have HB5 := Lib.hid (ext_trans HB.out hbn)
        clear hb5 hbn
        go_wp2_with fail
        go_roundw
        case rel => exact ⟨k + 1, vc, VA, by omega, by go_num, by rw [HSTEP.out], by rw [HSTEP.out]; exact HR5.out, HA5.out, HB5.out⟩
        case measure => simp [intOf]; omega
      case true =>
        have hAt := Bk.At_in hc5 k hkl hn2.2 hv
        obtain ⟨x, hxL, hxs⟩ := (HH.out.bits k hkl).1 hv
        have hsb : q.sb k = x := by have := (HH.out.lies x hxL).2; rw [hxs] at this; exact this
        have hxid := HIDS.out x hxL
        obtain ⟨m, hm0⟩ : ∃ m : Nat, x.id = (m : Int) := ⟨x.id.toNat, by omega⟩
        have hm : m < 4294967296 := by omega
        obtain ⟨row, col, hrow, hcol, _, _, _, _, _⟩ := Cab.seat_rc HOK.out hk0 (by rw [← HNN.out]; exact hk1)
        obtain ⟨seat, hseat⟩ : ∃ seat : Int, ((q.sb k).seat : Int) = seat := ⟨_, rfl⟩
        obtain ⟨til, htil⟩ : ∃ til : Int, (q.sb k).til = til := ⟨_, rfl⟩
        have hid : (q.sb k).id = (m : Int) := by rw [hsb]; exact hm0
        obtain ⟨hd, hhd⟩ : ∃ hd : Bool, (til != 0) = hd := ⟨_, rfl⟩
        have hline : lineAt wd k (q.sb k) = ⟨⟨(Cab.seatT row col).toArray⟩, ⟨(Cod.txt m).toArray⟩, hd⟩ := by
          unfold lineAt
          rw [hrow, hcol, hid, htil]
          simp only [Int.toNat_natCast]
          rw [← hhd]; rfl
        have HSTEP := Lib.hid (show linesTo wd q.ws q.sb (k + 1) = ls ++ [⟨⟨(Cab.seatT row col).toArray⟩, ⟨(Cod.txt m).toArray⟩, hd⟩] from by rw [linesTo, if_pos hv, HLE.out, hline])
        rw [hid, hseat, htil] at hAt
        have HAT := Lib.hid hAt
        have HTX := Lib.hid (fun W (hb : Below w.heap.size w W) => Cab.Text_yes r wd zs A c k row col W (HI.out.keep hb) hlen HOK.out hk0 (by rw [← HNN.out]; exact hk1) hrow hcol)
        have LONE := Lib.hid (lineL_one ⟨⟨(Cab.seatT row col).toArray⟩, ⟨(Cod.txt m).toArray⟩, hd⟩)
        clear hAt hc5 hv hxL hxs hsb hxid hm0 hrow hcol hseat htil hid hline
        go_wp2_with fail
        refine HAT.out.mono ?_
        rintro e w5 ⟨rfl, hb5⟩
        have hcA := HA.out.keep hb5
        have z0 : w5.cell? ⟨cb, 0, none⟩ = some (.int .i64 r) := hcA.cell 0
        have z1 : w5.cell? ⟨cb, 1, none⟩ = some (.int .i64 wd) := hcA.cell 1
        have z2 : w5.cell? ⟨cb, 2, none⟩ = some (.slice A zs.length c) := hcA.cell 2
        have hcbl := hcA.lt
        have hbn : Below wr.heap.size wr (w5.alloc (.cells #[.int .u32 (m : Int), .int .i64 seat, .int .i64 til] 78)) := ext_alloc hb5 _
        have HBN := Lib.hid hbn
        have HZ5 := Lib.hid hb5.size
        have HZB := Lib.hid (show w.heap.size < w5.heap.size by have h1 := HA.out.lt; have h2 := hb5.size; have h3 := HCB.out; omega)
        clear hbn hcA hb5
        go_wp2_with fail
        have hA6 := Arr.fresh w5 78 #[.int .u32 (m : Int), .int .i64 seat, .int .i64 til]
        have hbn := HBN.out
        obtain ⟨w6, hw6⟩ : ∃ w6, w5.alloc (.cells #[.int .u32 (m : Int), .int .i64 seat, .int .i64 til] 78) = w6 := ⟨_, rfl⟩
        obtain ⟨xb, hxb⟩ : ∃ xb, w5.heap.size = xb := ⟨_, rfl⟩
        rw [hw6] at hA6 hbn ⊢
        have HZB' := Lib.hid (show w.heap.size < xb by rw [← hxb]; exact HZB.out)
        have HXB := Lib.hid (show ∀ j, (Value.slice VA ls.length vc).ownBlock = some j → j ≠ xb from fun j hj => by
          have h1 := (own_lt HR.out.own hj).1
          have h2 := HZ5.out
          omega)
        rw [hxb] at hA6 ⊢
        have hR6 := HR.out.keep hbn
        have hC6 := HA.out.keep hbn
        have hB6 := ext_trans HB.out hbn
        clear hw6 hxb z0 z1 z2 hcbl hbn
        refine (HTX.out w6 hB6).mono ?_
        rintro e w7 ⟨rfl, hb7⟩
        have HA7 := Lib.hid (hA6.keep hb7)
        have HR7 := Lib.hid (hR6.keep hb7)
        have HC7 := Lib.hid (hC6.keep hb7)
        have HB7 := Lib.hid (ext_trans hB6 hb7)
        have x0 : w7.cell? ⟨xb, 0, none⟩ = some (.int .u32 (m : Int)) := (hA6.keep hb7).cell 0
        have x2 : w7.cell? ⟨xb, 2, none⟩ = some (.int .i64 til) := (hA6.keep hb7).cell 2
        clear hA6 hR6 hC6 hB6 hb7
        go_wp2_with fail
        refine region_any_drew (by kernel_rfl) ?_
        refine AnyTill.any (S := (fun w' => w'.cell? ⟨xb, 0, none⟩ = some (.int .u32 (m : Int)) ∧ w'.cell? ⟨xb, 2, none⟩ = some (.int .i64 til))) (t := 11) _ _ _ _ ?_
        have hHeld := (show (fun w' => w'.cell? ⟨xb, 0, none⟩ = some (.int .u32 (m : Int)) ∧ w'.cell? ⟨xb, 2, none⟩ = some (.int .i64 til)) w7.drew from ⟨x0, x2⟩)
        refine till_take (i := 0) (oi := ?o1) (d := (some 52)) (v := ?v1) ?hi1 (by kernel_rfl) (by kernel_rfl) (by kernel_rfl) (by kernel_rfl) (by kernel_rfl) (fun _ _ _ h => h) ?hd1 ?hw1 ?hy1 hHeld ?_
        case hi1 => (simp only [List.getElem?_toArray, List.getElem?_cons_zero]; exact rfl)
        case hd1 => rfl
        case hw1 => rfl
        case hy1 => (intro w hSw; (try dsimp only at hSw); go_simp; try with_reducible rfl)
        try simp only [Act.put, List.setIfInBounds_toArray, List.set_cons_zero, List.set_cons_succ]
        refine till_take (i := 1) (oi := ?o2) (d := (some 53)) (v := ?v2) ?hi2 (by kernel_rfl) (by kernel_rfl) (by kernel_rfl) (by kernel_rfl) (by kernel_rfl) (fun _ _ _ h => h) ?hd2 ?hw2 ?hy2 hHeld ?_
        case hi2 => (simp only [List.getElem?_toArray, List.getElem?_cons_zero, List.getElem?_cons_succ]; exact rfl)
        case hd2 => rfl
        case hw2 => rfl
        case hy2 => (intro w hSw; (try dsimp only at hSw); go_simp; try with_reducible rfl)
        try simp only [Act.put, List.setIfInBounds_toArray, List.set_cons_zero, List.set_cons_succ]
        refine till_take (i := 2) (oi := ?o3) (d := (some 54)) (v := ?v3) ?hi3 (by kernel_rfl) (by kernel_rfl) (by kernel_rfl) (by kernel_rfl) (by kernel_rfl) (fun _ _ _ h => h) ?hd3 ?hw3 ?hy3 hHeld ?_
        case hi3 => (simp only [List.getElem?_toArray, List.getElem?_cons_zero, List.getElem?_cons_succ]; exact rfl)
        case hd3 => rfl
        case hw3 => rfl
        case hy3 => (intro w hSw; (try dsimp only at hSw); go_simp; try with_reducible rfl)
        try simp only [Act.put, List.setIfInBounds_toArray, List.set_cons_zero, List.set_cons_succ]
        refine till_take (i := 3) (oi := ?o4) (d := (some 55)) (v := ?v4) ?hi4 (by kernel_rfl) (by kernel_rfl) (by kernel_rfl) (by kernel_rfl) (by kernel_rfl) (fun _ _ _ h => h) ?hd4 ?hw4 ?hy4 hHeld ?_
        case hi4 => (simp only [List.getElem?_toArray, List.getElem?_cons_zero, List.getElem?_cons_succ]; exact rfl)
        case hd4 => rfl
        case hw4 => rfl
        case hy4 => (intro w hSw; (try dsimp only at hSw); go_simp; try with_reducible rfl)
        try simp only [Act.put, List.setIfInBounds_toArray, List.set_cons_zero, List.set_cons_succ]
        refine till_take (i := 5) (oi := ?o5) (d := (some 57)) (v := ?v5) ?hi5 (by kernel_rfl) (by kernel_rfl) (by kernel_rfl) (by kernel_rfl) (by kernel_rfl) (fun _ _ _ h => h) ?hd5 ?hw5 ?hy5 hHeld ?_
        case hi5 => (simp only [List.getElem?_toArray, List.getElem?_cons_zero, List.getElem?_cons_succ]; exact rfl)
        case hd5 => rfl
        case hw5 => rfl
        case hy5 => (intro w hSw; (try dsimp only at hSw); go_simp; try with_reducible rfl)
        try simp only [Act.put, List.setIfInBounds_toArray, List.set_cons_zero, List.set_cons_succ]
        refine till_take (i := 6) (oi := ?o6) (d := (some 58)) (v := ?v6) ?hi6 (by kernel_rfl) (by kernel_rfl) (by kernel_rfl) (by kernel_rfl) (by kernel_rfl) (fun _ _ _ h => h) ?hd6 ?hw6 ?hy6 hHeld ?_
        case hi6 => (simp only [List.getElem?_toArray, List.getElem?_cons_zero, List.getElem?_cons_succ]; exact rfl)
        case hd6 => rfl
        case hw6 => rfl
        case hy6 => (intro w hSw; (try dsimp only at hSw); go_simp; try with_reducible rfl)
        try simp only [Act.put, List.setIfInBounds_toArray, List.set_cons_zero, List.set_cons_succ]
        refine till_take (i := 7) (oi := ?o7) (d := (some 59)) (v := ?v7) ?hi7 (by kernel_rfl) (by kernel_rfl) (by kernel_rfl) (by kernel_rfl) (by kernel_rfl) (fun _ _ _ h => h) ?hd7 ?hw7 ?hy7 hHeld ?_
        case hi7 => (simp only [List.getElem?_toArray, List.getElem?_cons_zero, List.getElem?_cons_succ]; exact rfl)
        case hd7 => rfl
        case hw7 => rfl
        case hy7 => (intro w hSw; (try dsimp only at hSw); go_simp; try with_reducible rfl)
        try simp only [Act.put, List.setIfInBounds_toArray, List.set_cons_zero, List.set_cons_succ]
        refine AnyTill.step (i := 4) (by kernel_rfl) (by kernel_rfl) rfl (fun K hK => ?_)
        go_simp
        refine (Cod.Text m hm w7.drew (HTB.out.keep (ext_trans HB7.out (ext_drew (Below.refl _ _))))).mono ?_
        rintro e w8 ⟨rfl, hb8⟩
        have hA8 := (HA7.out.drew).keep hb8
        have y0 : w8.cell? ⟨xb, 0, none⟩ = some (.int .u32 (m : Int)) := hA8.cell 0
        have y2 : w8.cell? ⟨xb, 2, none⟩ = some (.int .i64 til) := hA8.cell 2
        have hR8 := (HR7.out.keep (ext_trans (ext_drew (Below.refl _ _)) hb8))
        have HB8 := Lib.hid (ext_trans HB7.out (ext_trans (ext_drew (Below.refl _ _)) hb8))
        have hbn : Below w8.heap.size w8 (w8.alloc (.cells #[.string ⟨(Cab.seatT row col).toArray⟩, .string ⟨(Cod.txt m).toArray⟩, .bool hd] 74)) := ext_alloc (Below.refl _ _) _
        have HA9 := Lib.hid (hA8.keep hbn)
        have HR9 := Lib.hid (hR8.keep hbn)
        have HB9 := Lib.hid (ext_trans HB8.out hbn)
        have HB79 := Lib.hid (ext_trans (ext_trans (ext_drew (Below.refl w7.heap.size w7)) hb8) hbn)
        have HZ8 := Lib.hid (show w7.heap.size ≤ w8.heap.size from hb8.size)
        have HNW := Lib.hid (news_any w8 [.string ⟨(Cab.seatT row col).toArray⟩, .string ⟨(Cod.txt m).toArray⟩, .bool hd] 74)
        clear hb8 hA8 hR8 hbn
        go_wp2_with fail
        refine hK.out _ _ (by first | exact ⟨y0', y2'⟩ | exact ⟨y0, y2⟩ | exact ⟨HA9.out.cell 0, HA9.out.cell 2⟩) (fun hHeld4 => ?_)
        clear hK K
        try simp only [Act.put, List.setIfInBounds_toArray, List.set_cons_zero, List.set_cons_succ]
        refine till_pure (i := 8) (oi := ?o8) (d := (some 60)) (v := ?v8) ?hi8 (by kernel_rfl) (by kernel_rfl) (by kernel_rfl) (by kernel_rfl) (fun _ _ _ h => h) ?hd8 ?hw8 ?hy8 hHeld4 ?_
        case hi8 => (simp only [List.getElem?_toArray, List.getElem?_cons_zero, List.getElem?_cons_succ]; exact rfl)
        case hd8 => rfl
        case hw8 => rfl
        case hy8 => (intro w; go_simp; try with_reducible rfl)
        try simp only [Act.put, List.setIfInBounds_toArray, List.set_cons_zero, List.set_cons_succ]
        refine AnyTill.step (i := 9) (by kernel_rfl) (by kernel_rfl) rfl (fun K hK => ?_)
        go_simp
        go_wp2_with fail
        refine hK.out _ _ (by first | exact ⟨y0', y2'⟩ | exact ⟨y0, y2⟩ | exact ⟨HA9.out.cell 0, HA9.out.cell 2⟩) (fun hHeld9 => ?_)
        clear hK K
        try simp only [Act.put, List.setIfInBounds_toArray, List.set_cons_zero, List.set_cons_succ]
        refine AnyTill.step (i := 10) (by kernel_rfl) (by kernel_rfl) rfl (fun K hK => ?_)
        rw [if_pos (by rfl)]
        refine wp_append_elem _ (.tmp 52) (.tmp 61) 39 rfl 74 i0 (.agg #[.string ⟨#[]⟩, .string ⟨#[]⟩, .bool false]) 3 40 Tryz.underlying39 hi hz0 hz1 hz2 rfl (by decide) (.slice VA ls.length vc) ls.length (rowC ls) rfl HR9.out ⟨w8.heap.size, 0, none⟩ 1 [.string ⟨(Cab.seatT row col).toArray⟩, .string ⟨(Cod.txt m).toArray⟩, .bool hd] rfl rfl HNW.out LONE.out (by have := HLS.out; unfold maxLen; omega) (by have := HLS.out; omega) ?_
        intro g2 cp2 w10 hr10 hg10
        have hA10 := (hg10.block xb HA9.out.lt (fun e => by
          exact HXB.out xb e.symm rfl)).trans HA9.out
        have y0' : w10.cell? ⟨xb, 0, none⟩ = some (.int .u32 (m : Int)) := Arr.cell hA10 0
        have y2' : w10.cell? ⟨xb, 2, none⟩ = some (.int .i64 til) := Arr.cell hA10 2
        have HR10 := Lib.hid hr10
        have HG10 := Lib.hid hg10
        clear hr10 hg10 hA10
        refine hK.out _ _ (by first | exact ⟨y0', y2'⟩ | exact ⟨y0, y2⟩ | exact ⟨HA9.out.cell 0, HA9.out.cell 2⟩) (fun hHeld10 => ?_)
        clear hK K
        try simp only [Act.put, List.setIfInBounds_toArray, List.set_cons_zero, List.set_cons_succ]
        refine AnyTill.last (by kernel_rfl) ?_
        refine any_drop 11 (by kernel_rfl) (by kernel_rfl) ?_
        simp only [List.drop_succ_cons, List.drop_zero]
        go_wp2_with fail
        have hC9 := HC7.out.keep (HB79.out)
        have hS9 : ∀ j, (Value.slice VA ls.length vc).ownBlock = some j → w.heap.size < j := fun j hj => HR9.out.block j hj
        have hC10 := (HG10.out.block cb hC9.lt (fun e => by have h1 := hS9 cb e.symm; have h2 := HCB.out; omega)).trans hC9
        have hB10 : Below w.heap.size w w10 := HB9.out.grown HG10.out HB9.out.size (fun j hj => Nat.le_of_lt (hS9 j hj))
        have hr10 := HR10.out
        have hrs : setL (rowC ls) ls.length [.string ⟨(Cab.seatT row col).toArray⟩, .string ⟨(Cod.txt m).toArray⟩, .bool hd] = rowC (ls ++ [⟨⟨(Cab.seatT row col).toArray⟩, ⟨(Cod.txt m).toArray⟩, hd⟩]) := rowC_snoc ls ⟨⟨(Cab.seatT row col).toArray⟩, ⟨(Cod.txt m).toArray⟩, hd⟩
        rw [hrs] at hr10
        have hr11 := hr10.mono (T := fun j => w.heap.size < j) (fun j hj _ => by
          rcases hj with hj | hj
          · exact hj
          · have h1 := HB8.out.size
            have h2 : w.heap.size < xb := HZB'.out
            have h6 := HA7.out.lt
            have h5 := HZ8.out
            simp at hj
            omega)
        have HR11 := Lib.hid hr11; have HC11 := Lib.hid hC10; have HB11 := Lib.hid hB10
        clear hC9 hS9 hC10 hB10 hr10 hrs hr11
        go_roundw
        case rel => exact ⟨k + 1, cp2, some ⟨g2, 0, none⟩, by omega, by go_num, by rw [HSTEP.out]; simp, by rw [HSTEP.out, List.length_append]; exact HR11.out, HC11.out, HB11.out⟩
        case measure => simp [intOf]; omega
    · obtain rfl : k = n := by omega
      go_wp2_with fail
      go_ret2
      refine ⟨_, rfl, ?_, HB.out⟩
      rw [HLE.out]
      exact HR.out.mono fun j hj _ => Nat.le_of_lt hj

end Go.Proofs.YtpoijhjjbmaedaaGreatDoor.Man
end
