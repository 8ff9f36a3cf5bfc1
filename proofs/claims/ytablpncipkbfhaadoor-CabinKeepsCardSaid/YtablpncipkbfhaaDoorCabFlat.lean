/- flatSpans: lists of blocks that lie apart. -/
import Derived.Test.YtablpncipkbfhaaDoorKit4
import Derived.Test.YtablpncipkbfhaaDoorKit6
import Derived.Test.YtablpncipkbfhaaDoorCabLentC
import Derived.ArgAppend
namespace Go.Proofs.YtablpncipkbfhaaDoor.Cab
open Go.RowKit

def mkI (q i : Nat) : Int := 1000003 * ((q : Int) + 7) + (i : Int)
def Marked (q n : Nat) (cur : Array Value) : Prop := ∀ i, i < n → cur[i * 2]? = some (.int .i64 (mkI q i)) ∧ cur[i * 2 + 1]? = some (.int .i64 0)
/-- a block of spans with room for cap, the first n marked as list q's -/
def Blk (w : World) (g cap q n : Nat) : Prop := ∃ cur, w.heap[g]? = some (.cells cur 59 (0, 0)) ∧ cur.size = cap * 2 ∧ Marked q n cur
theorem Blk.lt {w : World} {g cap q n : Nat} (h : Blk w g cap q n) : g < w.heap.size := by
  obtain ⟨cur, h1, _⟩ := h
  exact (Array.getElem?_eq_some_iff.1 h1).1
theorem Blk.same {w w' : World} {g cap q n : Nat} (h : Blk w g cap q n) (e : w'.heap[g]? = w.heap[g]?) : Blk w' g cap q n := by
  obtain ⟨cur, h1, h2⟩ := h
  exact ⟨cur, e.trans h1, h2⟩
theorem Blk.keep {w w' : World} {g cap q n : Nat} (h : Blk w g cap q n) (hb : Below w.heap.size w w') : Blk w' g cap q n := h.same (hb.block g h.lt)
theorem Blk.less {w : World} {g cap q n n' : Nat} (h : Blk w g cap q n) (hn : n' ≤ n) : Blk w g cap q n' := by
  obtain ⟨cur, h1, h2, h3⟩ := h
  exact ⟨cur, h1, h2, fun i hi => h3 i (by omega)⟩
theorem Blk.other {w : World} {g cap q n : Nat} (h : Blk w g cap q n) {p : Addr} (hp : g ≠ p.block) (u : Value) : Blk (w.setCell p u) g cap q n :=
  h.same (Below.heap_setCell w p u g hp)
theorem Blk.cell {w : World} {g cap q n : Nat} (h : Blk w g cap q n) {i : Nat} (hi : i < n) : w.cell? ⟨g, i * 2, none⟩ = some (.int .i64 (mkI q i)) ∧ w.cell? ⟨g, i * 2 + 1, none⟩ = some (.int .i64 0) := by
  obtain ⟨cur, h1, h2, h3⟩ := h
  obtain ⟨a, b⟩ := h3 i hi
  exact ⟨by simp [World.cell?, h1, a], by simp [World.cell?, h1, b]⟩
theorem Blk.there {w : World} {g cap q n : Nat} (h : Blk w g cap q n) {j : Nat} (hj : j < cap * 2) : (∃ u, w.cell? ⟨g, j, none⟩ = some u) ∧ w.frozen? ⟨g, j, none⟩ = false := by
  obtain ⟨cur, h1, h2, h3⟩ := h
  exact ⟨⟨cur[j]'(by omega), by simp [World.cell?, h1, Array.getElem?_eq_getElem (show j < cur.size by omega)]⟩, by simp [World.frozen?, h1]⟩
theorem heap_put_same {w : World} {g : Nat} {cur : Array Value} {t : TypeId} (h : w.heap[g]? = some (.cells cur t (0, 0))) (i : Nat) (u : Value) : (w.setCell ⟨g, i, none⟩ u).heap[g]? = some (.cells (cur.setIfInBounds i u) t (0, 0)) := by
  simp [World.setCell, Array.getElem?_modify, h]
theorem Blk.put {w : World} {g cap q i : Nat} (h : Blk w g cap q i) (hi : i < cap) : Blk ((w.setCell ⟨g, i * 2, none⟩ (.int .i64 (mkI q i))).setCell ⟨g, i * 2 + 1, none⟩ (.int .i64 0)) g cap q (i + 1) := by
  obtain ⟨cur, h1, h2, h3⟩ := h
  refine ⟨_, heap_put_same (heap_put_same h1 _ _) _ _, by simp [h2], fun j hj => ?_⟩
  rcases Nat.lt_or_ge j i with hji | hji
  · obtain ⟨a, b⟩ := h3 j hji
    refine ⟨?_, ?_⟩
    · rw [Array.getElem?_setIfInBounds, if_neg (by omega), Array.getElem?_setIfInBounds, if_neg (by omega)]; exact a
    · rw [Array.getElem?_setIfInBounds, if_neg (by omega), Array.getElem?_setIfInBounds, if_neg (by omega)]; exact b
  · obtain rfl : j = i := by omega
    refine ⟨?_, ?_⟩
    · rw [Array.getElem?_setIfInBounds, if_neg (by omega), Array.getElem?_setIfInBounds, if_pos rfl, if_pos (by omega)]
    · rw [Array.getElem?_setIfInBounds, if_pos rfl, if_pos (by simp; omega)]

-- gangwaykit.markSpan
theorem size2 : (Tryd.prog.info? 59).map (·.size) = some 2 := by kernel_rfl
set_option maxRecDepth 100000 in
set_option maxHeartbeats 4000000 in
theorem MarkSpan (q i : Nat) (x y : Int) (hx : x = (q : Int)) (hy : y = (i : Int)) (hq : q ≤ 1000000) (hi : i ≤ 100000000) (w : World) :
    Calls Tryd.prog 84 #[.int .i64 x, .int .i64 y] w fun e w' => e = .returned (.agg #[.int .i64 (mkI q i), .int .i64 0]) ∧ Below w.heap.size w w' := by
  subst hx hy
  have hmk := Mark (q : Int) (i : Int) (by omega) (by omega)
  have HMK := Lib.hid hmk
  clear hmk
  go_enter Tryd.func84, Tryd.ntmps84
  go_wp2_with fail
  refine (HMK.out _).mono ?_
  rintro e w1 ⟨rfl, hw⟩
  subst hw
  go_wp2_with fail
  have hF := Arr.fresh w 59 #[.int .i64 (1000003 * ((q : Int) + 7) + (i : Int)), .int .i64 0]
  have hl := run_load_blk (P := Tryd.prog) 59 hF _ Tryd.underlying59 rfl size2
  refine bodyPost_ret (results_cell Tryd.results84 _ (by rfl) hl) rfl ⟨rfl, ?_⟩
  exact ext_alloc (Below.refl _ w) _

/-- the lists' own headers -/
def Hdr (w : World) (hd m : Nat) (G N C : Nat → Nat) : Prop := ∀ q, q < m → w.cell? ⟨hd, q, none⟩ = some (.slice (some ⟨G q, 0, none⟩) (N q) (C q))
theorem Hdr.keep {w w' : World} {hd m : Nat} {G N C : Nat → Nat} (h : Hdr w hd m G N C) (hb : Below w.heap.size w w') (hl : hd < w.heap.size) : Hdr w' hd m G N C := fun q hq => (hb.cell (p := ⟨hd, q, none⟩) hl).trans (h q hq)
theorem Hdr.other {w : World} {hd m : Nat} {G N C : Nat → Nat} (h : Hdr w hd m G N C) {p : Addr} (hp : hd ≠ p.block) (u : Value) : Hdr (w.setCell p u) hd m G N C := fun q hq => by
  exact (World.cell?_setCell_other w p ⟨hd, q, none⟩ u (fun e => hp (by rw [e]))).trans (h q hq)

def lv (N : Nat → Nat) (k q : Nat) : Nat := if q < k then N q else 0
theorem lv_lt {N : Nat → Nat} {k q : Nat} (h : q < k) : lv N k q = N q := by rw [lv, if_pos h]
theorem lv_ge {N : Nat → Nat} {k q : Nat} (h : k ≤ q) : lv N k q = 0 := by rw [lv, if_neg (by omega)]
theorem Hdr.put1 {W : World} {hd k : Nat} {v : Value} (h : W.cell? ⟨hd, k, none⟩ = some v ∧ hd < W.heap.size) {p : Addr} (hp : hd ≠ p.block) (u : Value) : (W.setCell p u).cell? ⟨hd, k, none⟩ = some v ∧ hd < (W.setCell p u).heap.size :=
  ⟨(World.cell?_setCell_other W p ⟨hd, k, none⟩ u (fun e => hp (by rw [e]))).trans h.1, by rw [World.size_setCell]; exact h.2⟩
def inG (G : Nat → Nat) (m k : Nat) : Prop := ∃ q, q < m ∧ k = G q
theorem Hdr.tch {S : Nat → Prop} {w w' : World} {hd m : Nat} {G N C : Nat → Nat} (h : Hdr w hd m G N C) (ht : Tch S w w') (hl : hd < w.heap.size) (hS : ¬ S hd) : Hdr w' hd m G N C := fun q hq =>
  (World.cell?_of_block (a := ⟨hd, q, none⟩) (ht.block hd hl hS)).trans (h q hq)
theorem Hdr.keep1 {W w1 : World} {hd k : Nat} {v : Value} (h : W.cell? ⟨hd, k, none⟩ = some v ∧ hd < W.heap.size) (hb : Below W.heap.size W w1) : w1.cell? ⟨hd, k, none⟩ = some v ∧ hd < w1.heap.size :=
  ⟨(hb.cell (p := ⟨hd, k, none⟩) h.2).trans h.1, Nat.lt_of_lt_of_le h.2 hb.size⟩

/-- a slice that lists q's marks up to n, in the list's own block or in one that lies in [lo, hi) -/
def GRow (w : World) (gq lo hi q n : Nat) (v : Value) : Prop := ∃ g c, v = .slice (some ⟨g, 0, none⟩) n c ∧ Blk w g c q n ∧ n ≤ c ∧ (g = gq ∨ lo ≤ g) ∧ g < hi
theorem GRow.same {w w' : World} {gq lo hi q n : Nat} {v : Value} (h : GRow w gq lo hi q n v) (hk : ∀ g, (g = gq ∨ lo ≤ g) → g < hi → w'.heap[g]? = w.heap[g]?) : GRow w' gq lo hi q n v := by
  obtain ⟨g, c, h1, h2, h3, h4, h5⟩ := h
  exact ⟨g, c, h1, h2.same (hk g h4 h5), h3, h4, h5⟩
theorem GRow.wide {w : World} {gq lo lo' hi hi' q n : Nat} {v : Value} (h : GRow w gq lo hi q n v) (h1 : lo' ≤ lo) (h2 : hi ≤ hi') : GRow w gq lo' hi' q n v := by
  obtain ⟨g, c, a, b, d, e, f⟩ := h
  exact ⟨g, c, a, b, d, e.imp id (fun h => Nat.le_trans h1 h), Nat.lt_of_lt_of_le f h2⟩
theorem cell_of_heap {w : World} {g : Nat} {cur : Array Value} {t : TypeId} {f : Nat × Nat} (h : w.heap[g]? = some (.cells cur t f)) (j : Nat) : w.cell? ⟨g, j, none⟩ = cur[j]? := by simp [World.cell?, h]
theorem Blk.olds {w : World} {g cap q n : Nat} (h : Blk w g cap q n) (hn : n ≤ cap) : ∃ olds : List Value, olds.length = n * 2 ∧ (∀ j u, olds[j]? = some u → w.cell? ⟨g, 0 + j, none⟩ = some u) ∧ (∀ i, i < n → olds[i * 2]? = some (.int .i64 (mkI q i)) ∧ olds[i * 2 + 1]? = some (.int .i64 0)) := by
  obtain ⟨cur, h1, h2, h3⟩ := h
  refine ⟨cur.toList.take (n * 2), by rw [List.length_take, Array.length_toList]; omega, fun j u hu => ?_, fun i hi => ?_⟩
  · rw [List.getElem?_take] at hu
    by_cases hj : j < n * 2
    · rw [if_pos hj] at hu
      rw [Nat.zero_add, cell_of_heap h1, ← hu, Array.getElem?_toList]
    · rw [if_neg hj] at hu; cases hu
  · obtain ⟨a, b⟩ := h3 i hi
    refine ⟨?_, ?_⟩
    · rw [List.getElem?_take, if_pos (by omega), Array.getElem?_toList]; exact a
    · rw [List.getElem?_take, if_pos (by omega), Array.getElem?_toList]; exact b
theorem Blk.ofOwn {w : World} {base q n : Nat} {v : Value} {olds : List Value} (h : w.ownsRow base 59 2 v (n + 1) (olds ++ [.int .i64 (mkI q n), .int .i64 0])) (hl : olds.length = n * 2) (ho : ∀ i, i < n → olds[i * 2]? = some (.int .i64 (mkI q i)) ∧ olds[i * 2 + 1]? = some (.int .i64 0)) :
    ∃ g c, v = .slice (some ⟨g, 0, none⟩) (n + 1) c ∧ Blk w g c q (n + 1) ∧ n + 1 ≤ c ∧ base ≤ g := by
  rcases h.2 with ⟨_, h0⟩ | ⟨g, cap, cur, hv, hb, hh, hnc, hcm, hcs, ht⟩
  · omega
  · refine ⟨g, cap, hv, ⟨cur, hh, hcs, fun i hi => ?_⟩, hnc, hb⟩
    have hx : ∀ j, j < (n + 1) * 2 → cur[j]? = (olds ++ [Value.int .i64 (mkI q n), .int .i64 0])[j]? := fun j hj => by
      rw [← ht, List.getElem?_take, if_pos hj, Array.getElem?_toList]
    rcases Nat.lt_or_ge i n with hin | hin
    · obtain ⟨a, b⟩ := ho i hin
      refine ⟨?_, ?_⟩
      · rw [hx _ (by omega), List.getElem?_append_left (by omega)]; exact a
      · rw [hx _ (by omega), List.getElem?_append_left (by omega)]; exact b
    · obtain rfl : i = n := by omega
      refine ⟨?_, ?_⟩
      · rw [hx _ (by omega), List.getElem?_append_right (by omega), hl, Nat.sub_self]; rfl
      · rw [hx _ (by omega), List.getElem?_append_right (by omega), hl, show i * 2 + 1 - i * 2 = 1 from by omega]; rfl
theorem Blk.far {w : World} {g cap q n i : Nat} (h : Blk w g cap q n) (hi : n ≤ i) (a b : Value) : Blk ((w.setCell ⟨g, i * 2, none⟩ a).setCell ⟨g, i * 2 + 1, none⟩ b) g cap q n := by
  obtain ⟨cur, h1, h2, h3⟩ := h
  refine ⟨_, heap_put_same (heap_put_same h1 _ _) _ _, by simp [h2], fun j hj => ?_⟩
  obtain ⟨x, y⟩ := h3 j hj
  refine ⟨?_, ?_⟩
  · rw [Array.getElem?_setIfInBounds, if_neg (by omega), Array.getElem?_setIfInBounds, if_neg (by omega)]; exact x
  · rw [Array.getElem?_setIfInBounds, if_neg (by omega), Array.getElem?_setIfInBounds, if_neg (by omega)]; exact y
theorem setCells_two (w : World) (g o : Nat) (a b : Value) : w.setCells g o [a, b] = (w.setCell ⟨g, o, none⟩ a).setCell ⟨g, o + 1, none⟩ b := rfl
theorem grown_none {w w' : World} (h : w.grownBy w' none) : Below w.heap.size w w' := Below.grown (Below.refl _ _) h (Nat.le_refl _) (by simp)
/-- between two rounds of the lists' growing: the grown lists so far, the lists as they were marked -/
def Inv3 (k : Nat) (G N C : Nat → Nat) (w : World) (top gsb : Nat) (cs : Array Value) (j ext : Nat) (wi : World) : Prop :=
  Arr wi gsb 48 cs ∧ (∀ q, q < j → ∃ v, cs[q]? = some v ∧ GRow wi (G q) (gsb + 1) top q (N q + ext) v) ∧ (∀ q, q < k → Blk wi (G q) (C q) q (N q)) ∧ Tch (inG G k) w wi ∧ top ≤ wi.heap.size
theorem Inv3.below {k : Nat} {G N C : Nat → Nat} {w : World} {top gsb : Nat} {cs : Array Value} {j ext : Nat} {wi w' : World} (h : Inv3 k G N C w top gsb cs j ext wi) (hb : Below wi.heap.size wi w') : Inv3 k G N C w top gsb cs j ext w' := by
  obtain ⟨a, b, c, d, e⟩ := h
  refine ⟨a.keep hb, fun q hq => ?_, fun q hq => (c q hq).keep hb, d.below hb, Nat.le_trans e hb.size⟩
  obtain ⟨v, h1, h2⟩ := b q hq
  exact ⟨v, h1, h2.same fun g _ hg => hb.block g (by omega)⟩
theorem Inv3.put {k : Nat} {G N C : Nat → Nat} {w : World} {top gsb : Nat} {cs : Array Value} {j ext n gg : Nat} {wi : World} (h : Inv3 k G N C w top gsb cs j ext wi) (hj : j < k) (hne : ∀ p q, p < k → q < k → p ≠ q → G p ≠ G q) (hG : ∀ q, q < k → G q < gsb) (hgt : gsb < top) (hwt : w.heap.size ≤ top) (hg : gg = G j ∨ top ≤ gg) (hn : N j ≤ n) (a b : Value) :
    Inv3 k G N C w top gsb cs j ext ((wi.setCell ⟨gg, n * 2, none⟩ a).setCell ⟨gg, n * 2 + 1, none⟩ b) := by
  obtain ⟨ha, hb, hc, hd, he⟩ := h
  have hj2 := hG j hj
  refine ⟨(ha.other (by simp only; omega) _).other (by simp only; omega) _, fun q hq => ?_, fun q hq => ?_, ?_, by simp; omega⟩
  · obtain ⟨v, h1, h2⟩ := hb q hq
    refine ⟨v, h1, h2.same fun g hgq hgt2 => ?_⟩
    have hgne : g ≠ gg := by
      rcases hg with rfl | hg
      · rcases hgq with rfl | hgq
        · exact hne q j (by omega) hj (by omega)
        · omega
      · omega
    exact (Below.heap_setCell _ _ _ g hgne).trans (Below.heap_setCell _ _ _ g hgne)
  · by_cases hgq : G q = gg
    · have hqj : q = j := by
        rcases hg with hg | hg
        · by_cases e : q = j
          · exact e
          · exact absurd (hgq.trans hg) (hne q j hq hj e)
        · have := hG q hq; omega
      subst hqj
      rw [← hgq]
      exact (hc q hq).far hn a b
    · exact ((hc q hq).other hgq _).other hgq _
  · rcases hg with rfl | hg
    · exact (hd.put (.inl ⟨j, hj, rfl⟩) _).put (.inl ⟨j, hj, rfl⟩) _
    · exact (hd.put (.inr (by simp only; omega)) _).put (.inr (by simp only; omega)) _
theorem Inv3.next {k : Nat} {G N C : Nat → Nat} {w : World} {top gsb : Nat} {cs : Array Value} {j ext : Nat} {wi : World} {v : Value} (h : Inv3 k G N C w top gsb cs j ext wi) (hg : GRow wi (G j) top wi.heap.size j (N j + ext) v) (hj : j < k) (hsz : cs.size = k) (hG : ∀ q, q < k → G q < gsb) (hgt : gsb < top) (hw : w.heap.size ≤ gsb) :
    Inv3 k G N C w (wi.setCell ⟨gsb, j, none⟩ v).heap.size gsb (cs.setIfInBounds j v) (j + 1) ext (wi.setCell ⟨gsb, j, none⟩ v) := by
  obtain ⟨ha, hb, hc, hd, he⟩ := h
  have hs : (wi.setCell ⟨gsb, j, none⟩ v).heap.size = wi.heap.size := World.size_setCell _ _ _
  refine ⟨ha.put j v, fun q hq => ?_, fun q hq => (hc q hq).other (by have := hG q hq; simp only; omega) _, hd.put (.inr hw) _, Nat.le_refl _⟩
  rcases Nat.lt_or_ge q j with h1 | h1
  · obtain ⟨u, h2, h3⟩ := hb q h1
    refine ⟨u, by rw [Array.getElem?_setIfInBounds, if_neg (by omega)]; exact h2, (h3.same fun g hgq _ => Below.heap_setCell _ _ _ g ?_).wide (Nat.le_refl _) (by omega)⟩
    have := hG q (by omega)
    simp only
    rcases hgq with rfl | hgq <;> omega
  · obtain rfl : q = j := by omega
    refine ⟨v, by rw [Array.getElem?_setIfInBounds, if_pos rfl, if_pos (by omega)], (hg.same fun g hgq _ => Below.heap_setCell _ _ _ g ?_).wide (by omega) (by omega)⟩
    have := hG q hj
    simp only
    rcases hgq with rfl | hgq <;> omega
theorem Inv3.row {k : Nat} {G N C : Nat → Nat} {w : World} {top gsb : Nat} {cs : Array Value} {j ext q : Nat} {wi : World} {g c : Nat} (h : Inv3 k G N C w top gsb cs j ext wi) (hq : q < j) (hv : cs[q]? = some (.slice (some ⟨g, 0, none⟩) (N q + ext) c)) : Blk wi g c q (N q + ext) := by
  obtain ⟨v, h1, g', c', h2, h3, _⟩ := h.2.1 q hq
  rw [hv] at h1
  subst h2
  injection h1 with h1
  injection h1 with e1 _ e2
  injection e1 with e1
  injection e1 with e1
  subst e1 e2
  exact h3
theorem Arr.lift {w w' : World} {g i : Nat} {t : TypeId} {cs : Array Value} {v : Value} (h : Arr w g t cs) (hv : cs[i]? = some v) (hb : Below w.heap.size w w') : w'.cell? ⟨g, i, none⟩ = some v :=
  ((h.keep hb).cell i).trans hv
theorem cell_lift {w w' : World} {g i : Nat} {v : Value} (h : w.cell? ⟨g, i, none⟩ = some v) (hb : Below w.heap.size w w') : w'.cell? ⟨g, i, none⟩ = some v :=
  (hb.cell (p := ⟨g, i, none⟩) (block_lt_of_cell h)).trans h
/-- between two rounds of the lists' last growing: only what the lists held at first is looked at again -/
def Inv7 (k : Nat) (G N C : Nat → Nat) (w : World) (top gsb : Nat) (cs : Array Value) (j : Nat) (wi : World) : Prop :=
  Arr wi gsb 48 cs ∧ (∀ q, q < j → ∃ g c, cs[q]? = some (.slice (some ⟨g, 0, none⟩) (N q + 64) c) ∧ Blk wi g c q (N q) ∧ (g = G q ∨ gsb + 1 ≤ g) ∧ g < top) ∧ (∀ q, q < k → Blk wi (G q) (C q) q (N q)) ∧ Tch (inG G k) w wi ∧ top ≤ wi.heap.size
theorem Inv7.below {k : Nat} {G N C : Nat → Nat} {w : World} {top gsb : Nat} {cs : Array Value} {j : Nat} {wi w' : World} (h : Inv7 k G N C w top gsb cs j wi) (hb : Below wi.heap.size wi w') : Inv7 k G N C w top gsb cs j w' := by
  obtain ⟨a, b, c, d, e⟩ := h
  refine ⟨a.keep hb, fun q hq => ?_, fun q hq => (c q hq).keep hb, d.below hb, Nat.le_trans e hb.size⟩
  obtain ⟨g, cc, h1, h2, h3⟩ := b q hq
  exact ⟨g, cc, h1, h2.keep hb, h3⟩
/-- one block alone is turned, that of a list or a new one -/
theorem Inv7.turn {k : Nat} {G N C : Nat → Nat} {w : World} {top gsb : Nat} {cs : Array Value} {j gg : Nat} {wi w' : World} (h : Inv7 k G N C w top gsb cs j wi) (hg : wi.grownBy w' (some gg)) (hG : ∀ q, q < k → G q < gsb) (hne : ∀ p q, p < k → q < k → p ≠ q → G p ≠ G q) (hj : j < k) (hgt : gsb < top) (hw : w.heap.size ≤ top) (hat : (gg = G j ∧ Blk w' (G j) (C j) j (N j)) ∨ top ≤ gg) : Inv7 k G N C w top gsb cs j w' := by
  obtain ⟨a, b, c, d, e⟩ := h
  have hj2 := hG j hj
  have hoth : ∀ g, g < wi.heap.size → g ≠ gg → w'.heap[g]? = wi.heap[g]? := fun g h1 h2 => hg.block g h1 (fun e => h2 (by injection e))
  have hgsb : gsb ≠ gg := by rcases hat with ⟨rfl, _⟩ | hat <;> omega
  refine ⟨(hoth gsb a.lt hgsb).trans a, fun q hq => ?_, fun q hq => ?_, d.grown hg (fun x hx => ?_), Nat.le_trans e hg.size⟩
  · obtain ⟨g, cc, h1, h2, h3, h4⟩ := b q hq
    refine ⟨g, cc, h1, h2.same (hoth g h2.lt ?_), h3, h4⟩
    rcases hat with ⟨rfl, _⟩ | hat
    · rcases h3 with rfl | h3
      · exact hne q j (by omega) hj (by omega)
      · omega
    · omega
  · by_cases hqg : G q = gg
    · rcases hat with ⟨hat, hblk⟩ | hat
      · have hqj : q = j := by
          by_cases e : q = j
          · exact e
          · exact absurd (hqg.trans hat) (hne q j hq hj e)
        subst hqj; exact hblk
      · have := hG q hq; omega
    · exact (c q hq).same (hoth _ (c q hq).lt hqg)
  · injection hx with hx
    subst hx
    rcases hat with ⟨rfl, _⟩ | hat
    · exact .inl ⟨j, hj, rfl⟩
    · exact .inr (by omega)
theorem Inv7.next {k : Nat} {G N C : Nat → Nat} {w : World} {top gsb : Nat} {cs : Array Value} {j g c : Nat} {wi : World} (h : Inv7 k G N C w top gsb cs j wi) (hb : Blk wi g c j (N j)) (hat : g = G j ∨ top ≤ g) (hj : j < k) (hsz : cs.size = k) (hG : ∀ q, q < k → G q < gsb) (hgt : gsb < top) (hw : w.heap.size ≤ gsb) :
    Inv7 k G N C w (wi.setCell ⟨gsb, j, none⟩ (.slice (some ⟨g, 0, none⟩) (N j + 64) c)).heap.size gsb (cs.setIfInBounds j (.slice (some ⟨g, 0, none⟩) (N j + 64) c)) (j + 1) (wi.setCell ⟨gsb, j, none⟩ (.slice (some ⟨g, 0, none⟩) (N j + 64) c)) := by
  obtain ⟨a, b, d, e, f⟩ := h
  have hs : (wi.setCell ⟨gsb, j, none⟩ (.slice (some ⟨g, 0, none⟩) (N j + 64) c)).heap.size = wi.heap.size := World.size_setCell _ _ _
  refine ⟨a.put j _, fun q hq => ?_, fun q hq => (d q hq).other (by have := hG q hq; simp only; omega) _, e.put (.inr hw) _, Nat.le_refl _⟩
  rcases Nat.lt_or_ge q j with h1 | h1
  · obtain ⟨g2, c2, h2, h3, h4, h5⟩ := b q h1
    have := hG q (by omega)
    refine ⟨g2, c2, by rw [Array.getElem?_setIfInBounds, if_neg (by omega)]; exact h2, h3.other (by simp only; rcases h4 with rfl | h4 <;> omega) _, h4, by omega⟩
  · obtain rfl : q = j := by omega
    have := hG q hj
    refine ⟨g, c, by rw [Array.getElem?_setIfInBounds, if_pos rfl, if_pos (by omega)], hb.other (by simp only; rcases hat with rfl | hat <;> omega) _, by rcases hat with h | h; exact .inl h; exact .inr (by omega), by have := hb.lt; omega⟩
/-- the block of 64 spans that is appended -/
def Many (w : World) (mb : Nat) : Prop := ∃ cur, w.heap[mb]? = some (.cells cur 59 (0, 0)) ∧ cur.size = 128 ∧ ∀ (i : Nat) (u : Value), cur[i]? = some u → u.oneCell' = true
theorem Many.put {w : World} {mb : Nat} (h : Many w mb) (i : Nat) (u : Value) (hu : u.oneCell' = true) : Many (w.setCell ⟨mb, i, none⟩ u) mb := by
  obtain ⟨cur, h1, h2, h3⟩ := h
  refine ⟨_, heap_put_same h1 _ _, by simp [h2], fun j v hv => ?_⟩
  rw [Array.getElem?_setIfInBounds] at hv
  split at hv
  · split at hv
    · injection hv with hv; rw [← hv]; exact hu
    · cases hv
  · exact h3 j v hv
theorem Many.keep {w w' : World} {mb : Nat} (h : Many w mb) (hb : Below w.heap.size w w') : Many w' mb := by
  obtain ⟨cur, h1, h2⟩ := h
  exact ⟨cur, (hb.block mb (Array.getElem?_eq_some_iff.1 h1).1).trans h1, h2⟩
theorem Many.lt {w : World} {mb : Nat} (h : Many w mb) : mb < w.heap.size := by
  obtain ⟨cur, h1, _⟩ := h
  exact (Array.getElem?_eq_some_iff.1 h1).1
theorem Many.there {w : World} {mb : Nat} (h : Many w mb) {j : Nat} (hj : j < 128) : (∃ u, w.cell? ⟨mb, j, none⟩ = some u) ∧ w.frozen? ⟨mb, j, none⟩ = false := by
  obtain ⟨cur, h1, h2, h3⟩ := h
  exact ⟨⟨cur[j]'(by omega), by rw [cell_of_heap h1, Array.getElem?_eq_getElem]⟩, by simp [World.frozen?, h1]⟩
theorem Many.list {w : World} {mb : Nat} (h : Many w mb) : ∃ news : List Value, news.length = 64 * 2 ∧ (∀ j u, news[j]? = some u → w.cell? ((⟨mb, 0, none⟩ : Addr).add j) = some u) ∧ ∀ u ∈ news, u.oneCell' = true := by
  obtain ⟨cur, h1, h2, h3⟩ := h
  refine ⟨cur.toList, by rw [Array.length_toList, h2], fun j u hu => ?_, fun u hu => ?_⟩
  · rw [add_zero_off, cell_of_heap h1, ← Array.getElem?_toList]; exact hu
  · obtain ⟨i, hi⟩ := List.getElem?_of_mem hu
    rw [Array.getElem?_toList] at hi
    exact h3 i u hi
theorem many_made {w : World} {base mb : Nat} {z : Array Value} (h : w.ownsRow base 59 2 (.slice (some ⟨mb, 0, none⟩) 64 64) 64 (madeCells #[.int .i64 0, .int .i64 0] (64 * 2)).toList) : Many w mb := by
  rcases h.2 with ⟨h0, _⟩ | ⟨g', cap, cur, hv, hb, hh, hnc, hcm, hcs, ht⟩
  · cases h0
  · injection hv with e1 _ e2
    injection e1 with e1
    injection e1 with e1
    subst e1 e2
    refine ⟨cur, hh, hcs, fun i u hu => ?_⟩
    have h5 : cur.toList = (madeCells #[.int .i64 0, .int .i64 0] (64 * 2)).toList := by rw [← ht, List.take_of_length_le (by rw [Array.length_toList]; omega)]
    have h6 : cur = madeCells #[.int .i64 0, .int .i64 0] (64 * 2) := Array.toList_inj.1 h5
    have h7 : (madeCells #[Value.int .i64 0, .int .i64 0] (64 * 2)).all (·.oneCell') = true := by decide +kernel
    rw [h6] at hu
    rw [Array.all_eq_true] at h7
    obtain ⟨hi, hu2⟩ := Array.getElem?_eq_some_iff.1 hu
    rw [← hu2]; exact h7 i hi
theorem Blk.ofOwn2 {w : World} {base q n m : Nat} {v : Value} {olds news : List Value} (h : w.ownsRow base 59 2 v (n + m) (olds ++ news)) (hm : 0 < m) (hl : olds.length = n * 2) (ho : ∀ i, i < n → olds[i * 2]? = some (.int .i64 (mkI q i)) ∧ olds[i * 2 + 1]? = some (.int .i64 0)) :
    ∃ g c, v = .slice (some ⟨g, 0, none⟩) (n + m) c ∧ Blk w g c q n ∧ base ≤ g := by
  rcases h.2 with ⟨_, h0⟩ | ⟨g, cap, cur, hv, hb, hh, hnc, hcm, hcs, ht⟩
  · omega
  · refine ⟨g, cap, hv, ⟨cur, hh, hcs, fun i hi => ?_⟩, hb⟩
    have hx : ∀ j, j < (n + m) * 2 → cur[j]? = (olds ++ news)[j]? := fun j hj => by
      rw [← ht, List.getElem?_take, if_pos hj, Array.getElem?_toList]
    obtain ⟨a, b⟩ := ho i hi
    refine ⟨?_, ?_⟩
    · rw [hx _ (by omega), List.getElem?_append_left (by omega)]; exact a
    · rw [hx _ (by omega), List.getElem?_append_left (by omega)]; exact b
theorem Blk.room {w : World} {g cap q n : Nat} (h : Blk w g cap q n) (news : List Value) (hl : n * 2 + news.length ≤ cap * 2) : Blk (w.setCells g (n * 2) news) g cap q n ∧ w.grownBy (w.setCells g (n * 2) news) (some g) := by
  obtain ⟨cur, h1, h2, h3⟩ := h
  obtain ⟨cs', a, b, _, d⟩ := arr_setCells g 59 news (n * 2) w cur h1 (by omega)
  refine ⟨⟨cs', a, by omega, fun i hi => ?_⟩, (only_setCells g news (n * 2) w).1⟩
  obtain ⟨x, y⟩ := h3 i hi
  exact ⟨(d _ (.inl (by omega))).trans x, (d _ (.inl (by omega))).trans y⟩
theorem Inv7.row {k : Nat} {G N C : Nat → Nat} {w : World} {top gsb : Nat} {cs : Array Value} {j q : Nat} {wi : World} {g c : Nat} (h : Inv7 k G N C w top gsb cs j wi) (hq : q < j) (hv : cs[q]? = some (.slice (some ⟨g, 0, none⟩) (N q + 64) c)) : Blk wi g c q (N q) := by
  obtain ⟨g', c', h1, h3, _⟩ := h.2.1 q hq
  rw [hv] at h1
  injection h1 with h1
  injection h1 with e1 _ e2
  injection e1 with e1
  injection e1 with e1
  subst e1 e2
  exact h3
theorem sl_info : (Tryd.prog.info? 48).map (fun i => (i.zero, i.size, i.bytes)) = some (some (.slice none 0 0), 1, 24) := by kernel_rfl
theorem own_arr {w : World} {base n g : Nat} {e : TypeId} {xs : List Value} (h : w.ownsRow base e 1 (.slice (some ⟨g, 0, none⟩) n n) n xs) : ∃ cs, Arr w g e cs ∧ cs.size = n := by
  rcases h.2 with ⟨h0, _⟩ | ⟨g', cap, cur, hv, hb, hh, hnc, hcm, hcs, ht⟩
  · cases h0
  · injection hv with e1 _ e2
    injection e1 with e1
    injection e1 with e1
    subst e1 e2
    exact ⟨cur, hh, by rw [hcs]; omega⟩

set_option maxRecDepth 100000 in
set_option maxHeartbeats 4000000 in
theorem FlatSpans (hd m hc : Nat) (G N C : Nat → Nat) (w : World) (hH : Hdr w hd m G N C) (hB : ∀ q, q < m → Blk w (G q) (C q) q 0) (hne : ∀ p q, p < m → q < m → p ≠ q → G p ≠ G q) (hhd : ∀ q, q < m → G q ≠ hd) (hdl : hd < w.heap.size) (hm : m ≤ 100) (hN : ∀ q, q < m → N q ≤ C q ∧ N q ≤ 2000) :
    Calls Tryd.prog 62 #[.slice (some ⟨hd, 0, none⟩) m hc] w fun e w' => e = .returned (.bool true) ∧ Tch (inG G m) w w' := by
  have HH := Lib.hid hH; have HB := Lib.hid hB; have HNE := Lib.hid hne; have HHD := Lib.hid hhd
  have hSh : ¬ inG G m hd := fun ⟨q, h1, h2⟩ => hhd q h1 h2.symm
  have HSH := Lib.hid hSh
  clear hH hB hne hhd hSh
  go_enter Tryd.func62, Tryd.ntmps62
  go_wp2_with fail
  go_loopw [3] (fun k wr => ∃ j : Nat, j ≤ m ∧ k = .int .i64 j ∧ (∀ q, q < m → Blk wr (G q) (C q) q (lv N j q)) ∧ Tch (inG G m) w wr) (fun k _ => (m - intOf k).toNat)
  case atStart => exact ⟨0, by omega, rfl, fun q hq => by rw [lv_ge (by omega)]; exact HB.out q hq, Tch.refl _ _⟩
  case round =>
    obtain ⟨k, hk, rfl, hBl, ht⟩ := hrel
    have HBL := Lib.hid hBl
    clear hBl
    by_cases h : k < m
    · have hk1 : (k : Int) < (m : Int) := by omega
      obtain ⟨hn1, hn2⟩ := hN k h
      go_wp2_with fail
      go_loopw [4] (fun i wi => ∃ i' : Nat, i' ≤ N k ∧ i = .int .i64 i' ∧ (∀ q, q < m → q ≠ k → Blk wi (G q) (C q) q (lv N k q)) ∧ Blk wi (G k) (C k) k i' ∧ Tch (inG G m) w wi) (fun i _ => (N k - intOf i).toNat)
      case atStart => exact ⟨0, by omega, rfl, fun q hq _ => HBL.out q hq, (HBL.out k h).less (by omega), ht⟩
      case round =>
        obtain ⟨i, hi, rfl, hOt, hBk, hti⟩ := hrel
        have x0 : wr.cell? ⟨hd, k, none⟩ = some (.slice (some ⟨G k, 0, none⟩) (N k) (C k)) := HH.out.tch hti hdl HSH.out k h
        have hdl2 : hd < wr.heap.size := Nat.lt_of_lt_of_le hdl hti.size
        have hS : wr.cell? ⟨hd, k, none⟩ = some (.slice (some ⟨G k, 0, none⟩) (N k) (C k)) ∧ hd < wr.heap.size := ⟨x0, hdl2⟩
        have HOT := Lib.hid hOt; have HBK := Lib.hid hBk; have HT := Lib.hid hti
        clear hOt hBk hti
        by_cases h2 : i < N k
        · have hi1 : (i : Int) < (N k : Int) := by omega
          have HD0 : hd ≠ G k := fun e => HHD.out k h e.symm
          have hi0 : (0 : Int) ≤ (i : Int) := by omega
          go_wp2_with fail
          refine wp_region_held_drew (S := (fun w' => w'.cell? ⟨hd, k, none⟩ = some (.slice (some ⟨G k, 0, none⟩) (N k) (C k)) ∧ hd < w'.heap.size)) (by kernel_rfl) (by exact Hdr.keep1 hS (ext_drew (Below.refl _ _))) (fun hHeld => ?_)
          refine take_yes (i := 0) (oi := ?o1) (d := (some 31)) (v := ?v1) ?hi1 (by kernel_rfl) (by kernel_rfl) (by kernel_rfl) (fun _ _ _ h => h) ?hd1 ?hw1 ?hy1 (by assumption) ?_
          case hi1 => (simp only [List.getElem?_toArray, List.getElem?_cons_zero]; exact rfl)
          case hd1 => rfl
          case hw1 => rfl
          case hy1 => (intro w hSw; (try dsimp only at hSw); go_simp; try with_reducible rfl)
          try simp only [Act.put, List.setIfInBounds_toArray, List.set_cons_zero, List.set_cons_succ]
          refine take_yes (i := 1) (oi := ?o2) (d := (some 32)) (v := ?v2) ?hi2 (by kernel_rfl) (by kernel_rfl) (by kernel_rfl) (fun _ _ _ h => h) ?hd2 ?hw2 ?hy2 (by assumption) ?_
          case hi2 => (simp only [List.getElem?_toArray, List.getElem?_cons_zero, List.getElem?_cons_succ]; exact rfl)
          case hd2 => rfl
          case hw2 => rfl
          case hy2 => (intro w hSw; (try dsimp only at hSw); go_simp; try with_reducible rfl)
          try simp only [Act.put, List.setIfInBounds_toArray, List.set_cons_zero, List.set_cons_succ]
          refine take_yes (i := 2) (oi := ?o3) (d := (some 33)) (v := ?v3) ?hi3 (by kernel_rfl) (by kernel_rfl) (by kernel_rfl) (fun _ _ _ h => h) ?hd3 ?hw3 ?hy3 (by assumption) ?_
          case hi3 => (simp only [List.getElem?_toArray, List.getElem?_cons_zero, List.getElem?_cons_succ]; exact rfl)
          case hd3 => rfl
          case hw3 => rfl
          case hy3 => (intro w hSw; (try dsimp only at hSw); go_simp; try with_reducible rfl)
          try simp only [Act.put, List.setIfInBounds_toArray, List.set_cons_zero, List.set_cons_succ]
          refine take_yes (i := 3) (oi := ?o4) (d := (some 34)) (v := ?v4) ?hi4 (by kernel_rfl) (by kernel_rfl) (by kernel_rfl) (fun _ _ _ h => h) ?hd4 ?hw4 ?hy4 (by assumption) ?_
          case hi4 => (simp only [List.getElem?_toArray, List.getElem?_cons_zero, List.getElem?_cons_succ]; exact rfl)
          case hd4 => rfl
          case hw4 => rfl
          case hy4 => (intro w hSw; (try dsimp only at hSw); go_simp; try with_reducible rfl)
          try simp only [Act.put, List.setIfInBounds_toArray, List.set_cons_zero, List.set_cons_succ]
          refine take_yes (i := 4) (oi := ?o5) (d := (some 35)) (v := ?v5) ?hi5 (by kernel_rfl) (by kernel_rfl) (by kernel_rfl) (fun _ _ _ h => h) ?hd5 ?hw5 ?hy5 (by assumption) ?_
          case hi5 => (simp only [List.getElem?_toArray, List.getElem?_cons_zero, List.getElem?_cons_succ]; exact rfl)
          case hd5 => rfl
          case hw5 => rfl
          case hy5 => (intro w hSw; (try dsimp only at hSw); go_simp; try with_reducible rfl)
          try simp only [Act.put, List.setIfInBounds_toArray, List.set_cons_zero, List.set_cons_succ]
          refine take_yes (i := 5) (oi := ?o6) (d := (some 36)) (v := ?v6) ?hi6 (by kernel_rfl) (by kernel_rfl) (by kernel_rfl) (fun _ _ _ h => h) ?hd6 ?hw6 ?hy6 (by assumption) ?_
          case hi6 => (simp only [List.getElem?_toArray, List.getElem?_cons_zero, List.getElem?_cons_succ]; exact rfl)
          case hd6 => rfl
          case hw6 => rfl
          case hy6 => (intro w hSw; (try dsimp only at hSw); go_simp; try with_reducible rfl)
          try simp only [Act.put, List.setIfInBounds_toArray, List.set_cons_zero, List.set_cons_succ]
          refine take_yes (i := 6) (oi := ?o7) (d := (some 37)) (v := ?v7) ?hi7 (by kernel_rfl) (by kernel_rfl) (by kernel_rfl) (fun _ _ _ h => h) ?hd7 ?hw7 ?hy7 (by assumption) ?_
          case hi7 => (simp only [List.getElem?_toArray, List.getElem?_cons_zero, List.getElem?_cons_succ]; exact rfl)
          case hd7 => rfl
          case hw7 => rfl
          case hy7 => (intro w hSw; (try dsimp only at hSw); go_simp; try with_reducible rfl)
          try simp only [Act.put, List.setIfInBounds_toArray, List.set_cons_zero, List.set_cons_succ]
          refine wpAnyH_ready (rs := [7]) (by kernel_rfl) (by simp) ?_
          refine AllReadyH.cons rfl (fun K hK => ?_) AllReadyH.nil
          go_simp
          (go_at_call 84; refine (MarkSpan k i _ _ rfl rfl (by omega) (by omega) _).mono ?_; rintro e w3 ⟨rfl, hb3⟩; (obtain ⟨⟨u0, z0⟩, n0⟩ := HBK.out.there (show i * 2 < C k * 2 by omega); obtain ⟨⟨u1, z1⟩, n1⟩ := HBK.out.there (show i * 2 + 1 < C k * 2 by omega); have y0 := (hb3.cell (p := ⟨G k, i * 2, none⟩) HBK.out.lt).trans z0; have y1 := (hb3.cell (p := ⟨G k, i * 2 + 1, none⟩) HBK.out.lt).trans z1; have m0 := (hb3.frozen (p := ⟨G k, i * 2, none⟩) HBK.out.lt).trans n0; have m1 := (hb3.frozen (p := ⟨G k, i * 2 + 1, none⟩) HBK.out.lt).trans n1; clear z0 z1 n0 n1))
          go_wp2_with fail
          refine hK.out _ _ (by first | exact Hdr.keep1 (by assumption) (by assumption) | (exact Hdr.put1 (Hdr.put1 (by assumption) HD0 _) HD0 _)) (fun hHeld7 => ?_)
          clear hK K
          try simp only [Act.put, List.setIfInBounds_toArray, List.set_cons_zero, List.set_cons_succ]
          refine take_yes (i := 8) (oi := ?o8) (d := (some 39)) (v := ?v8) ?hi8 (by kernel_rfl) (by kernel_rfl) (by kernel_rfl) (fun _ _ _ h => h) ?hd8 ?hw8 ?hy8 (by assumption) ?_
          case hi8 => (simp only [List.getElem?_toArray, List.getElem?_cons_zero, List.getElem?_cons_succ]; exact rfl)
          case hd8 => rfl
          case hw8 => rfl
          case hy8 => (intro w hSw; (try dsimp only at hSw); go_simp; try with_reducible rfl)
          try simp only [Act.put, List.setIfInBounds_toArray, List.set_cons_zero, List.set_cons_succ]
          refine wpAnyH_ready (rs := [9]) (by kernel_rfl) (by simp) ?_
          refine AllReadyH.cons rfl (fun K hK => ?_) AllReadyH.nil
          go_simp
          skip
          go_wp2_with fail
          refine hK.out _ _ (by first | exact Hdr.keep1 (by assumption) (by assumption) | (exact Hdr.put1 (Hdr.put1 (by assumption) HD0 _) HD0 _)) (fun hHeld9 => ?_)
          clear hK K
          try simp only [Act.put, List.setIfInBounds_toArray, List.set_cons_zero, List.set_cons_succ]
          refine wpAnyH_done (by kernel_rfl) ?_ _
          go_wp2_with fail
          go_roundw
          case rel =>
            have hb4 : Below wr.heap.size wr w3 := ext_trans (ext_drew (Below.refl _ _)) hb3
            exact ⟨i + 1, by omega, by go_num, fun q hq hqk => (((HOT.out q hq hqk).keep hb4).other (HNE.out q k hq h hqk) _).other (HNE.out q k hq h hqk) _, (HBK.out.keep hb4).put (by omega), ((HT.out.below hb4).put (.inl ⟨k, h, rfl⟩) _).put (.inl ⟨k, h, rfl⟩) _⟩
          case measure => simp [intOf]; omega
        · obtain rfl : i = N k := by omega
          go_wp2_with fail
          go_roundw
          case rel =>
            refine ⟨k + 1, by omega, by go_num, fun q hq => ?_, HT.out⟩
            rcases Nat.lt_trichotomy q k with h3 | h3 | h3
            · have := HOT.out q hq (by omega); rw [lv_lt h3] at this; rw [lv_lt (by omega)]; exact this
            · subst h3; rw [lv_lt (by omega)]; exact HBK.out
            · have := HOT.out q hq (by omega); rw [lv_ge (by omega)] at this; rw [lv_ge (by omega)]; exact this
          case measure => simp [intOf]; omega
    · obtain rfl : k = m := by omega
      have hB2 : ∀ q, q < k → Blk wr (G q) (C q) q (N q) := fun q hq => by have := HBL.out q hq; rw [lv_lt hq] at this; exact this
      have HB2 := Lib.hid hB2; have HT := Lib.hid ht
      have hGlt : ∀ q, q < k → G q < wr.heap.size := fun q hq => (hB2 q hq).lt
      have HGL := Lib.hid hGlt
      have hw := ht.size
      clear hB2 HBL ht h hGlt
      obtain ⟨i1, hi1, hz01, hz11, hz21⟩ := info_parts sl_info
      obtain ⟨i0, hi, hz0, hz1, hz2⟩ := info_parts span_info
      go_wp2_with (refine wpList_make_full _ rfl _ _ 57 rfl wr.heap.size 48 i1 (.slice none 0 0) 1 Tryd.underlying57 hi1 hz01 hz11 .i64 .i64 _ _ k rfl rfl rfl rfl (by rw [hz21]; omega) (by unfold maxLen; omega) (Nat.le_refl _) ?_; intro w5 hown5 hg5; have HO5 := Lib.hid hown5; have HG5 := Lib.hid hg5; clear hown5 hg5)
      obtain ⟨cs0, hcs0, hcs1⟩ := own_arr HO5.out
      have hb5 : Below wr.heap.size wr w5 := Below.grown (Below.refl _ _) HG5.out (Nat.le_refl _) (by simp)
      obtain ⟨gsb, hgsb⟩ : ∃ gsb, gsb = wr.heap.size := ⟨_, rfl⟩
      have hl5 := hcs0.lt
      rw [← hgsb] at hcs0 hl5 ⊢
      have HGS := Lib.hid hgsb
      have hB5 : ∀ q, q < k → Blk w5 (G q) (C q) q (N q) := fun q hq => (HB2.out q hq).keep hb5
      have ht5 := HT.out.below hb5
      have HB5 := Lib.hid hB5
      clear hgsb HO5 HG5 HB2 hB5
      rename World => w5'
      have hgw : w.heap.size ≤ gsb := by have := HGS.out; omega
      have hGl : ∀ q, q < k → G q < gsb := fun q hq => by rw [HGS.out]; exact HGL.out q hq
      have HGLT := Lib.hid hGl
      clear hGl
      go_loopw [6] (fun j wr => ∃ (j' : Nat) (cs : Array Value), j' ≤ k ∧ j = .int .i64 j' ∧ cs.size = k ∧ Inv3 k G N C w wr.heap.size gsb cs j' 64 wr) (fun j _ => (k - intOf j).toNat)
      case atStart => exact ⟨0, cs0, by omega, rfl, hcs1, hcs0, fun q hq => absurd hq (by omega), HB5.out, ht5, Nat.le_refl _⟩
      case round =>
        clear hcs0 hcs1 hb5 hl5 ht5 HB5
        obtain ⟨j, cs, hj, rfl, hcz, hinv⟩ := hrel
        rename World => wo
        have hgo : gsb < wo.heap.size := hinv.1.lt
        have HINV := Lib.hid hinv
        have hlo : hd < wo.heap.size := Nat.lt_of_lt_of_le hdl hinv.2.2.2.1.size
        by_cases h : j < k
        · obtain ⟨hn1, hn2⟩ := hN j h
          have x0 : wo.cell? ⟨hd, j, none⟩ = some (.slice (some ⟨G j, 0, none⟩) (N j) (C j)) := HH.out.tch hinv.2.2.2.1 hdl HSH.out j h
          have hj1 : (j : Int) < (k : Int) := by omega
          clear hinv
          go_wp2_with fail
          go_loopw [7, 8] (fun g i wi => ∃ i' : Nat, i' ≤ 64 ∧ i = .int .i64 i' ∧ GRow wi (G j) wo.heap.size wi.heap.size j (N j + i') g ∧ Inv3 k G N C w wo.heap.size gsb cs j 64 wi) (fun _ i _ => (64 - intOf i).toNat)
          case atStart => exact ⟨0, by omega, rfl, ⟨G j, C j, rfl, HINV.out.2.2.1 j h, hn1, .inl rfl, (HINV.out.2.2.1 j h).lt⟩, HINV.out⟩
          case round =>
            obtain ⟨i, hi', rfl, hg, hiv⟩ := hrel
            obtain ⟨gg, gc, rfl, hbk, hnc, hat, hltg⟩ := hg
            have x0 : wr.cell? ⟨hd, j, none⟩ = some (.slice (some ⟨G j, 0, none⟩) (N j) (C j)) := HH.out.tch hiv.2.2.2.1 hdl HSH.out j h
            have HIV := Lib.hid hiv; have HBK := Lib.hid hbk
            have hsz := hiv.2.2.2.2
            have hcsl := hiv.1.lt
            clear hbk
            by_cases hi64 : i < 64
            · clear hiv
              go_wp2_with fail
              refine (MarkSpan j (N j + i) _ _ rfl (by simp) (by omega) (by omega) _).mono ?_
              rintro e w4 ⟨rfl, hb4⟩
              have hbA := ext_alloc hb4 (.cells #[.int .i64 (mkI j (N j + i)), .int .i64 0] 59)
              have HIA := Lib.hid (HIV.out.below hbA)
              have HBA := Lib.hid (HBK.out.keep hbA)
              have hszA := hbA.size
              obtain ⟨olds, ho1, ho2, ho3⟩ := HBA.out.olds hnc
              have HO2 := Lib.hid ho2; have HO3 := Lib.hid ho3
              clear ho2 ho3
              by_cases hroom : N j + i + 1 ≤ gc
              · go_wp2_with (at_builtin; refine wpList_append_arg _ rfl (.tmp 57) (.tmp 67) 48 rfl 59 i0 (.agg #[.int .i64 0, .int .i64 0]) 2 16 Tryd.underlying48 hi hz0 hz1 hz2 rfl (by decide) gg 0 (N j + i) gc olds rfl ho1 HO2.out ⟨w4.heap.size, 0, none⟩ 1 1 _ rfl rfl (news_two _ _ _ _) (two_one _ _) (fun _ s hs => by have hs2 : s < 2 := hs; have := HBA.out.there (j := 0 + (N j + i) * 2 + s) (by omega); exact ⟨by obtain ⟨u, hu⟩ := this.1; rw [hu]; rfl, this.2⟩) (by unfold maxLen; omega) (by omega) (fun _ => ?_) (fun hc => absurd hroom (by omega)); rw [setCells_two, Nat.zero_add])
                go_roundw
                case rel =>
                  exact ⟨i + 1, by omega, by go_num, ⟨gg, gc, rfl, HBA.out.put (by omega), by omega, hat, by simp at hszA ⊢; omega⟩, HIA.out.put h HNE.out HGLT.out hgo (by omega) hat (by omega) _ _⟩
                case measure => simp [intOf]; omega
              · go_wp2_with (at_builtin; refine wpList_append_arg _ rfl (.tmp 57) (.tmp 67) 48 rfl 59 i0 (.agg #[.int .i64 0, .int .i64 0]) 2 16 Tryd.underlying48 hi hz0 hz1 hz2 rfl (by decide) gg 0 (N j + i) gc olds rfl ho1 HO2.out ⟨w4.heap.size, 0, none⟩ 1 1 _ rfl rfl (news_two _ _ _ _) (two_one _ _) (fun hc => absurd hc hroom) (by unfold maxLen; omega) (by omega) (fun hc => absurd hc hroom) (fun _ v6 w6 hown6 hg6 => ?_); obtain ⟨g6, c6, rfl, hb6, hn6, hl6⟩ := Blk.ofOwn hown6 ho1 HO3.out; have HB6 := Lib.hid hb6; have HG6 := Lib.hid hg6; clear hown6 hg6 hb6)
                go_roundw
                case rel =>
                  have hz6 := hb4.size
                  exact ⟨i + 1, by omega, by go_num, ⟨g6, c6, rfl, HB6.out, hn6, .inr (by simp at hl6; omega), HB6.out.lt⟩, HIA.out.below (grown_none HG6.out)⟩
                case measure => simp [intOf]; omega
            · obtain rfl : i = 64 := by omega
              have hcj : cs[j]? = some (cs[j]'(by omega)) := Array.getElem?_eq_getElem _
              have y0 : wr.cell? ⟨gsb, j, none⟩ = some (cs[j]'(by omega)) := (hiv.1.cell j).trans hcj
              have m0 := hiv.1.mark j
              clear hiv
              go_wp2_with fail
              go_roundw
              case rel => exact ⟨j + 1, _, by omega, by go_num, by rw [Array.size_setIfInBounds]; exact hcz, HIV.out.next ⟨gg, gc, rfl, HBK.out, hnc, hat, hltg⟩ h hcz HGLT.out hgo hgw⟩
              case measure => simp [intOf]; omega
        · obtain rfl : j = k := by omega
          obtain ⟨top, htop⟩ : ∃ top, wo.heap.size = top := ⟨_, rfl⟩
          rw [htop] at HINV hgo
          clear hinv
          go_wp2_with fail
          go_loopw [9] (fun q wr => ∃ q' : Nat, q' ≤ j ∧ q = .int .i64 q' ∧ Inv3 j G N C w top gsb cs j 64 wr) (fun q _ => (j - intOf q).toNat)
          case atStart => exact ⟨0, by omega, rfl, HINV.out⟩
          case round =>
            obtain ⟨q, hq, rfl, hinv⟩ := hrel
            by_cases h5 : q < j
            · obtain ⟨hn1, hn2⟩ := hN q h5
              have hq1 : (q : Int) < (j : Int) := by omega
              obtain ⟨v, hv, g, c, rfl, hb1, hc1, hgat, hgl⟩ := hinv.2.1 q h5
              have hHd := Lib.hid (HH.out.tch hinv.2.2.2.1 hdl HSH.out q h5)
              have y0 : wr.cell? ⟨gsb, q, none⟩ = some (.slice (some ⟨g, 0, none⟩) (N q + 64) c) := (hinv.1.cell q).trans hv
              have HINV5 := Lib.hid hinv
              have HV := Lib.hid hv
              clear hinv hb1 hv
              go_wp2_with fail
              go_loopw [10] (fun i wi => ∃ i' : Nat, i' ≤ N q + 64 ∧ i = .int .i64 i' ∧ Inv3 j G N C w top gsb cs j 64 wi) (fun i _ => (N q + 64 - intOf i).toNat)
              case atStart => exact ⟨0, by omega, rfl, HINV5.out⟩
              case round =>
                clear y0
                obtain ⟨i, hi6, rfl, hinv⟩ := hrel
                have z1 : wr.cell? ⟨gsb, q, none⟩ = some (.slice (some ⟨g, 0, none⟩) (N q + 64) c) := (hinv.1.cell q).trans HV.out
                have z2 : wr.cell? ⟨hd, q, none⟩ = some (.slice (some ⟨G q, 0, none⟩) (N q) (C q)) := HH.out.tch hinv.2.2.2.1 hdl HSH.out q h5
                by_cases h6 : i < N q + 64
                · obtain ⟨z3, z4⟩ := (hinv.row h5 HV.out).cell h6
                  have hi1 : (i : Int) < (N q : Int) + 64 := by omega
                  have hi0 : (0 : Int) ≤ (i : Int) := by omega
                  obtain ⟨M, hM⟩ : ∃ M, mkI q i = M := ⟨_, rfl⟩
                  have hms : ∀ W : World, Calls Tryd.prog 84 #[.int .i64 q, .int .i64 i] W fun e w' => e = .returned (.agg #[.int .i64 M, .int .i64 0]) ∧ Below W.heap.size W w' := fun W => by rw [← hM]; exact MarkSpan q i _ _ rfl rfl (by omega) (by omega) W
                  have HMS := Lib.hid hms
                  by_cases h7 : i < N q
                  · obtain ⟨z5, z6⟩ := (hinv.2.2.1 q h5).cell h7
                    rw [hM] at z3 z5
                    have HCS : (∀ w', Below wr.heap.size wr w' → (w'.cell? ⟨gsb, q, none⟩ = some (.slice (some ⟨g, 0, none⟩) (N q + 64) c) ∧ w'.cell? ⟨hd, q, none⟩ = some (.slice (some ⟨G q, 0, none⟩) (N q) (C q)) ∧ w'.cell? ⟨g, i * 2, none⟩ = some (.int .i64 M) ∧ w'.cell? ⟨g, i * 2 + 1, none⟩ = some (.int .i64 0) ∧ w'.cell? ⟨G q, i * 2, none⟩ = some (.int .i64 M) ∧ w'.cell? ⟨G q, i * 2 + 1, none⟩ = some (.int .i64 0) ∧ Below wr.heap.size wr w')) := fun w' hb => ⟨cell_lift z1 hb, cell_lift z2 hb, cell_lift z3 hb, cell_lift z4 hb, cell_lift z5 hb, cell_lift z6 hb, hb⟩
                    have hi7 : (i : Int) < (N q : Int) := by omega
                    have HINV6 := Lib.hid hinv
                    clear hinv hms hM
                    go_wp2_with fail
                    refine wp_region_held_drew (S := (fun w' => w'.cell? ⟨gsb, q, none⟩ = some (.slice (some ⟨g, 0, none⟩) (N q + 64) c) ∧ w'.cell? ⟨hd, q, none⟩ = some (.slice (some ⟨G q, 0, none⟩) (N q) (C q)) ∧ w'.cell? ⟨g, i * 2, none⟩ = some (.int .i64 M) ∧ w'.cell? ⟨g, i * 2 + 1, none⟩ = some (.int .i64 0) ∧ w'.cell? ⟨G q, i * 2, none⟩ = some (.int .i64 M) ∧ w'.cell? ⟨G q, i * 2 + 1, none⟩ = some (.int .i64 0) ∧ Below wr.heap.size wr w')) (by kernel_rfl) (by exact HCS _ (ext_drew (Below.refl _ _))) (fun hHeld => ?_)
                    refine take_yes (i := 0) (oi := ?o33) (d := (some 88)) (v := ?v33) ?hi33 (by kernel_rfl) (by kernel_rfl) (by kernel_rfl) (fun _ _ _ h => h) ?hd33 ?hw33 ?hy33 (by assumption) ?_
                    case hi33 => (simp only [List.getElem?_toArray, List.getElem?_cons_zero]; exact rfl)
                    case hd33 => rfl
                    case hw33 => rfl
                    case hy33 => (intro w hSw; (try dsimp only at hSw); go_simp; try with_reducible rfl)
                    try simp only [Act.put, List.setIfInBounds_toArray, List.set_cons_zero, List.set_cons_succ]
                    refine take_yes (i := 1) (oi := ?o34) (d := (some 89)) (v := ?v34) ?hi34 (by kernel_rfl) (by kernel_rfl) (by kernel_rfl) (fun _ _ _ h => h) ?hd34 ?hw34 ?hy34 (by assumption) ?_
                    case hi34 => (simp only [List.getElem?_toArray, List.getElem?_cons_zero, List.getElem?_cons_succ]; exact rfl)
                    case hd34 => rfl
                    case hw34 => rfl
                    case hy34 => (intro w hSw; (try dsimp only at hSw); go_simp; try with_reducible rfl)
                    try simp only [Act.put, List.setIfInBounds_toArray, List.set_cons_zero, List.set_cons_succ]
                    refine take_yes (i := 2) (oi := ?o35) (d := (some 90)) (v := ?v35) ?hi35 (by kernel_rfl) (by kernel_rfl) (by kernel_rfl) (fun _ _ _ h => h) ?hd35 ?hw35 ?hy35 (by assumption) ?_
                    case hi35 => (simp only [List.getElem?_toArray, List.getElem?_cons_zero, List.getElem?_cons_succ]; exact rfl)
                    case hd35 => rfl
                    case hw35 => rfl
                    case hy35 => (intro w hSw; (try dsimp only at hSw); go_simp; try with_reducible rfl)
                    try simp only [Act.put, List.setIfInBounds_toArray, List.set_cons_zero, List.set_cons_succ]
                    refine take_yes (i := 3) (oi := ?o36) (d := (some 91)) (v := ?v36) ?hi36 (by kernel_rfl) (by kernel_rfl) (by kernel_rfl) (fun _ _ _ h => h) ?hd36 ?hw36 ?hy36 (by assumption) ?_
                    case hi36 => (simp only [List.getElem?_toArray, List.getElem?_cons_zero, List.getElem?_cons_succ]; exact rfl)
                    case hd36 => rfl
                    case hw36 => rfl
                    case hy36 => (intro w hSw; (try dsimp only at hSw); go_simp; try with_reducible rfl)
                    try simp only [Act.put, List.setIfInBounds_toArray, List.set_cons_zero, List.set_cons_succ]
                    refine take_yes (i := 4) (oi := ?o37) (d := (some 92)) (v := ?v37) ?hi37 (by kernel_rfl) (by kernel_rfl) (by kernel_rfl) (fun _ _ _ h => h) ?hd37 ?hw37 ?hy37 (by assumption) ?_
                    case hi37 => (simp only [List.getElem?_toArray, List.getElem?_cons_zero, List.getElem?_cons_succ]; exact rfl)
                    case hd37 => rfl
                    case hw37 => rfl
                    case hy37 => (intro w hSw; (try dsimp only at hSw); go_simp; try with_reducible rfl)
                    try simp only [Act.put, List.setIfInBounds_toArray, List.set_cons_zero, List.set_cons_succ]
                    refine take_yes (i := 5) (oi := ?o38) (d := (some 93)) (v := ?v38) ?hi38 (by kernel_rfl) (by kernel_rfl) (by kernel_rfl) (fun _ _ _ h => h) ?hd38 ?hw38 ?hy38 (by assumption) ?_
                    case hi38 => (simp only [List.getElem?_toArray, List.getElem?_cons_zero, List.getElem?_cons_succ]; exact rfl)
                    case hd38 => rfl
                    case hw38 => rfl
                    case hy38 => (intro w hSw; (try dsimp only at hSw); go_simp; try with_reducible rfl)
                    try simp only [Act.put, List.setIfInBounds_toArray, List.set_cons_zero, List.set_cons_succ]
                    refine take_yes (i := 6) (oi := ?o39) (d := (some 94)) (v := ?v39) ?hi39 (by kernel_rfl) (by kernel_rfl) (by kernel_rfl) (fun _ _ _ h => h) ?hd39 ?hw39 ?hy39 (by assumption) ?_
                    case hi39 => (simp only [List.getElem?_toArray, List.getElem?_cons_zero, List.getElem?_cons_succ]; exact rfl)
                    case hd39 => rfl
                    case hw39 => rfl
                    case hy39 => (intro w hSw; (try dsimp only at hSw); go_simp; try with_reducible rfl)
                    try simp only [Act.put, List.setIfInBounds_toArray, List.set_cons_zero, List.set_cons_succ]
                    refine take_yes (i := 7) (oi := ?o40) (d := (some 95)) (v := ?v40) ?hi40 (by kernel_rfl) (by kernel_rfl) (by kernel_rfl) (fun _ _ _ h => h) ?hd40 ?hw40 ?hy40 (by assumption) ?_
                    case hi40 => (simp only [List.getElem?_toArray, List.getElem?_cons_zero, List.getElem?_cons_succ]; exact rfl)
                    case hd40 => rfl
                    case hw40 => rfl
                    case hy40 => (intro w hSw; (try dsimp only at hSw); go_simp; try with_reducible rfl)
                    try simp only [Act.put, List.setIfInBounds_toArray, List.set_cons_zero, List.set_cons_succ]
                    refine take_yes (i := 8) (oi := ?o41) (d := (some 96)) (v := ?v41) ?hi41 (by kernel_rfl) (by kernel_rfl) (by kernel_rfl) (fun _ _ _ h => h) ?hd41 ?hw41 ?hy41 (by assumption) ?_
                    case hi41 => (simp only [List.getElem?_toArray, List.getElem?_cons_zero, List.getElem?_cons_succ]; exact rfl)
                    case hd41 => rfl
                    case hw41 => rfl
                    case hy41 => (intro w hSw; (try dsimp only at hSw); go_simp; try with_reducible rfl)
                    try simp only [Act.put, List.setIfInBounds_toArray, List.set_cons_zero, List.set_cons_succ]
                    refine wpAnyH_ready (rs := [9]) (by kernel_rfl) (by simp) ?_
                    refine AllReadyH.cons rfl (fun K hK => ?_) AllReadyH.nil
                    go_simp
                    (go_at_call 84; refine (HMS.out _).mono ?_; rintro e w9 ⟨rfl, hb9⟩; have hbz9 := ext_trans hHeld.2.2.2.2.2.2 hb9)
                    go_wp2_with fail
                    refine hK.out _ _ (by exact HCS _ (by assumption)) (fun hHeld9 => ?_)
                    clear hK K
                    try simp only [Act.put, List.setIfInBounds_toArray, List.set_cons_zero, List.set_cons_succ]
                    refine take_yes (i := 10) (oi := ?o42) (d := (some 98)) (v := ?v42) ?hi42 (by kernel_rfl) (by kernel_rfl) (by kernel_rfl) (fun _ _ _ h => h) ?hd42 ?hw42 ?hy42 (by assumption) ?_
                    case hi42 => (simp only [List.getElem?_toArray, List.getElem?_cons_zero, List.getElem?_cons_succ]; exact rfl)
                    case hd42 => rfl
                    case hw42 => rfl
                    case hy42 => (intro w hSw; (try dsimp only at hSw); go_simp; try with_reducible rfl)
                    try simp only [Act.put, List.setIfInBounds_toArray, List.set_cons_zero, List.set_cons_succ]
                    refine take_yes (i := 11) (oi := ?o43) (d := (some 99)) (v := ?v43) ?hi43 (by kernel_rfl) (by kernel_rfl) (by kernel_rfl) (fun _ _ _ h => h) ?hd43 ?hw43 ?hy43 (by assumption) ?_
                    case hi43 => (simp only [List.getElem?_toArray, List.getElem?_cons_zero, List.getElem?_cons_succ]; exact rfl)
                    case hd43 => rfl
                    case hw43 => rfl
                    case hy43 => (intro w hSw; (try dsimp only at hSw); go_simp; try with_reducible rfl)
                    try simp only [Act.put, List.setIfInBounds_toArray, List.set_cons_zero, List.set_cons_succ]
                    refine take_yes (i := 12) (oi := ?o44) (d := (some 100)) (v := ?v44) ?hi44 (by kernel_rfl) (by kernel_rfl) (by kernel_rfl) (fun _ _ _ h => h) ?hd44 ?hw44 ?hy44 (by assumption) ?_
                    case hi44 => (simp only [List.getElem?_toArray, List.getElem?_cons_zero, List.getElem?_cons_succ]; exact rfl)
                    case hd44 => rfl
                    case hw44 => rfl
                    case hy44 => (intro w hSw; (try dsimp only at hSw); go_simp; try with_reducible rfl)
                    try simp only [Act.put, List.setIfInBounds_toArray, List.set_cons_zero, List.set_cons_succ]
                    refine take_yes (i := 13) (oi := ?o45) (d := (some 101)) (v := ?v45) ?hi45 (by kernel_rfl) (by kernel_rfl) (by kernel_rfl) (fun _ _ _ h => h) ?hd45 ?hw45 ?hy45 (by assumption) ?_
                    case hi45 => (simp only [List.getElem?_toArray, List.getElem?_cons_zero, List.getElem?_cons_succ]; exact rfl)
                    case hd45 => rfl
                    case hw45 => rfl
                    case hy45 => (intro w hSw; (try dsimp only at hSw); go_simp; try with_reducible rfl)
                    try simp only [Act.put, List.setIfInBounds_toArray, List.set_cons_zero, List.set_cons_succ]
                    refine take_yes (i := 14) (oi := ?o46) (d := (some 102)) (v := ?v46) ?hi46 (by kernel_rfl) (by kernel_rfl) (by kernel_rfl) (fun _ _ _ h => h) ?hd46 ?hw46 ?hy46 (by assumption) ?_
                    case hi46 => (simp only [List.getElem?_toArray, List.getElem?_cons_zero, List.getElem?_cons_succ]; exact rfl)
                    case hd46 => rfl
                    case hw46 => rfl
                    case hy46 => (intro w hSw; (try dsimp only at hSw); go_simp; try with_reducible rfl)
                    try simp only [Act.put, List.setIfInBounds_toArray, List.set_cons_zero, List.set_cons_succ]
                    refine take_yes (i := 15) (oi := ?o47) (d := (some 103)) (v := ?v47) ?hi47 (by kernel_rfl) (by kernel_rfl) (by kernel_rfl) (fun _ _ _ h => h) ?hd47 ?hw47 ?hy47 (by assumption) ?_
                    case hi47 => (simp only [List.getElem?_toArray, List.getElem?_cons_zero, List.getElem?_cons_succ]; exact rfl)
                    case hd47 => rfl
                    case hw47 => rfl
                    case hy47 => (intro w hSw; (try dsimp only at hSw); go_simp; try with_reducible rfl)
                    try simp only [Act.put, List.setIfInBounds_toArray, List.set_cons_zero, List.set_cons_succ]
                    refine take_yes (i := 16) (oi := ?o48) (d := (some 104)) (v := ?v48) ?hi48 (by kernel_rfl) (by kernel_rfl) (by kernel_rfl) (fun _ _ _ h => h) ?hd48 ?hw48 ?hy48 (by assumption) ?_
                    case hi48 => (simp only [List.getElem?_toArray, List.getElem?_cons_zero, List.getElem?_cons_succ]; exact rfl)
                    case hd48 => rfl
                    case hw48 => rfl
                    case hy48 => (intro w hSw; (try dsimp only at hSw); go_simp; try with_reducible rfl)
                    try simp only [Act.put, List.setIfInBounds_toArray, List.set_cons_zero, List.set_cons_succ]
                    refine take_yes (i := 17) (oi := ?o49) (d := (some 105)) (v := ?v49) ?hi49 (by kernel_rfl) (by kernel_rfl) (by kernel_rfl) (fun _ _ _ h => h) ?hd49 ?hw49 ?hy49 (by assumption) ?_
                    case hi49 => (simp only [List.getElem?_toArray, List.getElem?_cons_zero, List.getElem?_cons_succ]; exact rfl)
                    case hd49 => rfl
                    case hw49 => rfl
                    case hy49 => (intro w hSw; (try dsimp only at hSw); go_simp; try with_reducible rfl)
                    try simp only [Act.put, List.setIfInBounds_toArray, List.set_cons_zero, List.set_cons_succ]
                    refine take_yes (i := 18) (oi := ?o50) (d := (some 106)) (v := ?v50) ?hi50 (by kernel_rfl) (by kernel_rfl) (by kernel_rfl) (fun _ _ _ h => h) ?hd50 ?hw50 ?hy50 (by assumption) ?_
                    case hi50 => (simp only [List.getElem?_toArray, List.getElem?_cons_zero, List.getElem?_cons_succ]; exact rfl)
                    case hd50 => rfl
                    case hw50 => rfl
                    case hy50 => (intro w hSw; (try dsimp only at hSw); go_simp; try with_reducible rfl)
                    try simp only [Act.put, List.setIfInBounds_toArray, List.set_cons_zero, List.set_cons_succ]
                    refine take_yes (i := 19) (oi := ?o51) (d := (some 107)) (v := ?v51) ?hi51 (by kernel_rfl) (by kernel_rfl) (by kernel_rfl) (fun _ _ _ h => h) ?hd51 ?hw51 ?hy51 (by assumption) ?_
                    case hi51 => (simp only [List.getElem?_toArray, List.getElem?_cons_zero, List.getElem?_cons_succ]; exact rfl)
                    case hd51 => rfl
                    case hw51 => rfl
                    case hy51 => (intro w hSw; (try dsimp only at hSw); go_simp; try with_reducible rfl)
                    try simp only [Act.put, List.setIfInBounds_toArray, List.set_cons_zero, List.set_cons_succ]
                    refine take_yes (i := 20) (oi := ?o52) (d := (some 108)) (v := ?v52) ?hi52 (by kernel_rfl) (by kernel_rfl) (by kernel_rfl) (fun _ _ _ h => h) ?hd52 ?hw52 ?hy52 (by assumption) ?_
                    case hi52 => (simp only [List.getElem?_toArray, List.getElem?_cons_zero, List.getElem?_cons_succ]; exact rfl)
                    case hd52 => rfl
                    case hw52 => rfl
                    case hy52 => (intro w hSw; (try dsimp only at hSw); go_simp; try with_reducible rfl)
                    try simp only [Act.put, List.setIfInBounds_toArray, List.set_cons_zero, List.set_cons_succ]
                    refine take_yes (i := 21) (oi := ?o53) (d := (some 109)) (v := ?v53) ?hi53 (by kernel_rfl) (by kernel_rfl) (by kernel_rfl) (fun _ _ _ h => h) ?hd53 ?hw53 ?hy53 (by assumption) ?_
                    case hi53 => (simp only [List.getElem?_toArray, List.getElem?_cons_zero, List.getElem?_cons_succ]; exact rfl)
                    case hd53 => rfl
                    case hw53 => rfl
                    case hy53 => (intro w hSw; (try dsimp only at hSw); go_simp; try with_reducible rfl)
                    try simp only [Act.put, List.setIfInBounds_toArray, List.set_cons_zero, List.set_cons_succ]
                    refine take_yes (i := 22) (oi := ?o54) (d := (some 110)) (v := ?v54) ?hi54 (by kernel_rfl) (by kernel_rfl) (by kernel_rfl) (fun _ _ _ h => h) ?hd54 ?hw54 ?hy54 (by assumption) ?_
                    case hi54 => (simp only [List.getElem?_toArray, List.getElem?_cons_zero, List.getElem?_cons_succ]; exact rfl)
                    case hd54 => rfl
                    case hw54 => rfl
                    case hy54 => (intro w hSw; (try dsimp only at hSw); go_simp; try with_reducible rfl)
                    try simp only [Act.put, List.setIfInBounds_toArray, List.set_cons_zero, List.set_cons_succ]
                    refine take_yes (i := 23) (oi := ?o55) (d := (some 111)) (v := ?v55) ?hi55 (by kernel_rfl) (by kernel_rfl) (by kernel_rfl) (fun _ _ _ h => h) ?hd55 ?hw55 ?hy55 (by assumption) ?_
                    case hi55 => (simp only [List.getElem?_toArray, List.getElem?_cons_zero, List.getElem?_cons_succ]; exact rfl)
                    case hd55 => rfl
                    case hw55 => rfl
                    case hy55 => (intro w hSw; (try dsimp only at hSw); go_simp; try with_reducible rfl)
                    try simp only [Act.put, List.setIfInBounds_toArray, List.set_cons_zero, List.set_cons_succ]
                    refine take_yes (i := 24) (oi := ?o56) (d := (some 112)) (v := ?v56) ?hi56 (by kernel_rfl) (by kernel_rfl) (by kernel_rfl) (fun _ _ _ h => h) ?hd56 ?hw56 ?hy56 (by assumption) ?_
                    case hi56 => (simp only [List.getElem?_toArray, List.getElem?_cons_zero, List.getElem?_cons_succ]; exact rfl)
                    case hd56 => rfl
                    case hw56 => rfl
                    case hy56 => (intro w hSw; (try dsimp only at hSw); go_simp; try with_reducible rfl)
                    try simp only [Act.put, List.setIfInBounds_toArray, List.set_cons_zero, List.set_cons_succ]
                    refine take_yes (i := 25) (oi := ?o57) (d := (some 113)) (v := ?v57) ?hi57 (by kernel_rfl) (by kernel_rfl) (by kernel_rfl) (fun _ _ _ h => h) ?hd57 ?hw57 ?hy57 (by assumption) ?_
                    case hi57 => (simp only [List.getElem?_toArray, List.getElem?_cons_zero, List.getElem?_cons_succ]; exact rfl)
                    case hd57 => rfl
                    case hw57 => rfl
                    case hy57 => (intro w hSw; (try dsimp only at hSw); go_simp; try with_reducible rfl)
                    try simp only [Act.put, List.setIfInBounds_toArray, List.set_cons_zero, List.set_cons_succ]
                    refine take_yes (i := 26) (oi := ?o58) (d := (some 114)) (v := ?v58) ?hi58 (by kernel_rfl) (by kernel_rfl) (by kernel_rfl) (fun _ _ _ h => h) ?hd58 ?hw58 ?hy58 (by assumption) ?_
                    case hi58 => (simp only [List.getElem?_toArray, List.getElem?_cons_zero, List.getElem?_cons_succ]; exact rfl)
                    case hd58 => rfl
                    case hw58 => rfl
                    case hy58 => (intro w hSw; (try dsimp only at hSw); go_simp; try with_reducible rfl)
                    try simp only [Act.put, List.setIfInBounds_toArray, List.set_cons_zero, List.set_cons_succ]
                    refine take_yes (i := 27) (oi := ?o59) (d := (some 115)) (v := ?v59) ?hi59 (by kernel_rfl) (by kernel_rfl) (by kernel_rfl) (fun _ _ _ h => h) ?hd59 ?hw59 ?hy59 (by assumption) ?_
                    case hi59 => (simp only [List.getElem?_toArray, List.getElem?_cons_zero, List.getElem?_cons_succ]; exact rfl)
                    case hd59 => rfl
                    case hw59 => rfl
                    case hy59 => (intro w hSw; (try dsimp only at hSw); go_simp; try with_reducible rfl)
                    try simp only [Act.put, List.setIfInBounds_toArray, List.set_cons_zero, List.set_cons_succ]
                    refine take_yes (i := 28) (oi := ?o60) (d := (some 116)) (v := ?v60) ?hi60 (by kernel_rfl) (by kernel_rfl) (by kernel_rfl) (fun _ _ _ h => h) ?hd60 ?hw60 ?hy60 (by assumption) ?_
                    case hi60 => (simp only [List.getElem?_toArray, List.getElem?_cons_zero, List.getElem?_cons_succ]; exact rfl)
                    case hd60 => rfl
                    case hw60 => rfl
                    case hy60 => (intro w hSw; (try dsimp only at hSw); go_simp; try with_reducible rfl)
                    try simp only [Act.put, List.setIfInBounds_toArray, List.set_cons_zero, List.set_cons_succ]
                    refine take_yes (i := 29) (oi := ?o61) (d := (some 117)) (v := ?v61) ?hi61 (by kernel_rfl) (by kernel_rfl) (by kernel_rfl) (fun _ _ _ h => h) ?hd61 ?hw61 ?hy61 (by assumption) ?_
                    case hi61 => (simp only [List.getElem?_toArray, List.getElem?_cons_zero, List.getElem?_cons_succ]; exact rfl)
                    case hd61 => rfl
                    case hw61 => rfl
                    case hy61 => (intro w hSw; (try dsimp only at hSw); go_simp; try with_reducible rfl)
                    try simp only [Act.put, List.setIfInBounds_toArray, List.set_cons_zero, List.set_cons_succ]
                    refine wpAnyH_ready (rs := [30]) (by kernel_rfl) (by simp) ?_
                    refine AllReadyH.cons rfl (fun K hK => ?_) AllReadyH.nil
                    go_simp
                    (go_at_call 84; refine (HMS.out _).mono ?_; rintro e w30 ⟨rfl, hb30⟩; have hbz30 := ext_trans hHeld9.2.2.2.2.2.2 hb30)
                    go_wp2_with fail
                    refine hK.out _ _ (by exact HCS _ (by assumption)) (fun hHeld30 => ?_)
                    clear hK K
                    try simp only [Act.put, List.setIfInBounds_toArray, List.set_cons_zero, List.set_cons_succ]
                    refine take_yes (i := 31) (oi := ?o62) (d := (some 119)) (v := ?v62) ?hi62 (by kernel_rfl) (by kernel_rfl) (by kernel_rfl) (fun _ _ _ h => h) ?hd62 ?hw62 ?hy62 (by assumption) ?_
                    case hi62 => (simp only [List.getElem?_toArray, List.getElem?_cons_zero, List.getElem?_cons_succ]; exact rfl)
                    case hd62 => rfl
                    case hw62 => rfl
                    case hy62 => (intro w hSw; (try dsimp only at hSw); go_simp; try with_reducible rfl)
                    try simp only [Act.put, List.setIfInBounds_toArray, List.set_cons_zero, List.set_cons_succ]
                    refine take_yes (i := 32) (oi := ?o63) (d := (some 120)) (v := ?v63) ?hi63 (by kernel_rfl) (by kernel_rfl) (by kernel_rfl) (fun _ _ _ h => h) ?hd63 ?hw63 ?hy63 (by assumption) ?_
                    case hi63 => (simp only [List.getElem?_toArray, List.getElem?_cons_zero, List.getElem?_cons_succ]; exact rfl)
                    case hd63 => rfl
                    case hw63 => rfl
                    case hy63 => (intro w hSw; (try dsimp only at hSw); go_simp; try with_reducible rfl)
                    try simp only [Act.put, List.setIfInBounds_toArray, List.set_cons_zero, List.set_cons_succ]
                    refine take_yes (i := 33) (oi := ?o64) (d := (some 121)) (v := ?v64) ?hi64 (by kernel_rfl) (by kernel_rfl) (by kernel_rfl) (fun _ _ _ h => h) ?hd64 ?hw64 ?hy64 (by assumption) ?_
                    case hi64 => (simp only [List.getElem?_toArray, List.getElem?_cons_zero, List.getElem?_cons_succ]; exact rfl)
                    case hd64 => rfl
                    case hw64 => rfl
                    case hy64 => (intro w hSw; (try dsimp only at hSw); go_simp; try with_reducible rfl)
                    try simp only [Act.put, List.setIfInBounds_toArray, List.set_cons_zero, List.set_cons_succ]
                    refine take_yes (i := 34) (oi := ?o65) (d := (some 122)) (v := ?v65) ?hi65 (by kernel_rfl) (by kernel_rfl) (by kernel_rfl) (fun _ _ _ h => h) ?hd65 ?hw65 ?hy65 (by assumption) ?_
                    case hi65 => (simp only [List.getElem?_toArray, List.getElem?_cons_zero, List.getElem?_cons_succ]; exact rfl)
                    case hd65 => rfl
                    case hw65 => rfl
                    case hy65 => (intro w hSw; (try dsimp only at hSw); go_simp; try with_reducible rfl)
                    try simp only [Act.put, List.setIfInBounds_toArray, List.set_cons_zero, List.set_cons_succ]
                    refine wpAnyH_done (by kernel_rfl) ?_ _
                    go_wp2_with fail
                    go_roundw
                    case rel => exact ⟨i + 1, by omega, by go_num, HINV6.out.below hHeld30.2.2.2.2.2.2⟩
                    case measure => simp [intOf]; omega
                  · rw [hM] at z3
                    have HCS : (∀ w', Below wr.heap.size wr w' → (w'.cell? ⟨gsb, q, none⟩ = some (.slice (some ⟨g, 0, none⟩) (N q + 64) c) ∧ w'.cell? ⟨hd, q, none⟩ = some (.slice (some ⟨G q, 0, none⟩) (N q) (C q)) ∧ w'.cell? ⟨g, i * 2, none⟩ = some (.int .i64 M) ∧ w'.cell? ⟨g, i * 2 + 1, none⟩ = some (.int .i64 0) ∧ Below wr.heap.size wr w')) := fun w' hb => ⟨cell_lift z1 hb, cell_lift z2 hb, cell_lift z3 hb, cell_lift z4 hb, hb⟩
                    have hi7 : ¬ (i : Int) < (N q : Int) := by omega
                    have HINV6 := Lib.hid hinv
                    clear hinv hms hM
                    go_wp2_with fail
                    refine wp_region_held_drew (S := (fun w' => w'.cell? ⟨gsb, q, none⟩ = some (.slice (some ⟨g, 0, none⟩) (N q + 64) c) ∧ w'.cell? ⟨hd, q, none⟩ = some (.slice (some ⟨G q, 0, none⟩) (N q) (C q)) ∧ w'.cell? ⟨g, i * 2, none⟩ = some (.int .i64 M) ∧ w'.cell? ⟨g, i * 2 + 1, none⟩ = some (.int .i64 0) ∧ Below wr.heap.size wr w')) (by kernel_rfl) (by exact HCS _ (ext_drew (Below.refl _ _))) (fun hHeld => ?_)
                    refine take_yes (i := 0) (oi := ?o66) (d := (some 88)) (v := ?v66) ?hi66 (by kernel_rfl) (by kernel_rfl) (by kernel_rfl) (fun _ _ _ h => h) ?hd66 ?hw66 ?hy66 (by assumption) ?_
                    case hi66 => (simp only [List.getElem?_toArray, List.getElem?_cons_zero]; exact rfl)
                    case hd66 => rfl
                    case hw66 => rfl
                    case hy66 => (intro w hSw; (try dsimp only at hSw); go_simp; try with_reducible rfl)
                    try simp only [Act.put, List.setIfInBounds_toArray, List.set_cons_zero, List.set_cons_succ]
                    refine take_yes (i := 1) (oi := ?o67) (d := (some 89)) (v := ?v67) ?hi67 (by kernel_rfl) (by kernel_rfl) (by kernel_rfl) (fun _ _ _ h => h) ?hd67 ?hw67 ?hy67 (by assumption) ?_
                    case hi67 => (simp only [List.getElem?_toArray, List.getElem?_cons_zero, List.getElem?_cons_succ]; exact rfl)
                    case hd67 => rfl
                    case hw67 => rfl
                    case hy67 => (intro w hSw; (try dsimp only at hSw); go_simp; try with_reducible rfl)
                    try simp only [Act.put, List.setIfInBounds_toArray, List.set_cons_zero, List.set_cons_succ]
                    refine take_yes (i := 2) (oi := ?o68) (d := (some 90)) (v := ?v68) ?hi68 (by kernel_rfl) (by kernel_rfl) (by kernel_rfl) (fun _ _ _ h => h) ?hd68 ?hw68 ?hy68 (by assumption) ?_
                    case hi68 => (simp only [List.getElem?_toArray, List.getElem?_cons_zero, List.getElem?_cons_succ]; exact rfl)
                    case hd68 => rfl
                    case hw68 => rfl
                    case hy68 => (intro w hSw; (try dsimp only at hSw); go_simp; try with_reducible rfl)
                    try simp only [Act.put, List.setIfInBounds_toArray, List.set_cons_zero, List.set_cons_succ]
                    refine take_yes (i := 3) (oi := ?o69) (d := (some 91)) (v := ?v69) ?hi69 (by kernel_rfl) (by kernel_rfl) (by kernel_rfl) (fun _ _ _ h => h) ?hd69 ?hw69 ?hy69 (by assumption) ?_
                    case hi69 => (simp only [List.getElem?_toArray, List.getElem?_cons_zero, List.getElem?_cons_succ]; exact rfl)
                    case hd69 => rfl
                    case hw69 => rfl
                    case hy69 => (intro w hSw; (try dsimp only at hSw); go_simp; try with_reducible rfl)
                    try simp only [Act.put, List.setIfInBounds_toArray, List.set_cons_zero, List.set_cons_succ]
                    refine take_yes (i := 4) (oi := ?o70) (d := (some 92)) (v := ?v70) ?hi70 (by kernel_rfl) (by kernel_rfl) (by kernel_rfl) (fun _ _ _ h => h) ?hd70 ?hw70 ?hy70 (by assumption) ?_
                    case hi70 => (simp only [List.getElem?_toArray, List.getElem?_cons_zero, List.getElem?_cons_succ]; exact rfl)
                    case hd70 => rfl
                    case hw70 => rfl
                    case hy70 => (intro w hSw; (try dsimp only at hSw); go_simp; try with_reducible rfl)
                    try simp only [Act.put, List.setIfInBounds_toArray, List.set_cons_zero, List.set_cons_succ]
                    refine take_yes (i := 5) (oi := ?o71) (d := (some 93)) (v := ?v71) ?hi71 (by kernel_rfl) (by kernel_rfl) (by kernel_rfl) (fun _ _ _ h => h) ?hd71 ?hw71 ?hy71 (by assumption) ?_
                    case hi71 => (simp only [List.getElem?_toArray, List.getElem?_cons_zero, List.getElem?_cons_succ]; exact rfl)
                    case hd71 => rfl
                    case hw71 => rfl
                    case hy71 => (intro w hSw; (try dsimp only at hSw); go_simp; try with_reducible rfl)
                    try simp only [Act.put, List.setIfInBounds_toArray, List.set_cons_zero, List.set_cons_succ]
                    refine take_yes (i := 6) (oi := ?o72) (d := (some 94)) (v := ?v72) ?hi72 (by kernel_rfl) (by kernel_rfl) (by kernel_rfl) (fun _ _ _ h => h) ?hd72 ?hw72 ?hy72 (by assumption) ?_
                    case hi72 => (simp only [List.getElem?_toArray, List.getElem?_cons_zero, List.getElem?_cons_succ]; exact rfl)
                    case hd72 => rfl
                    case hw72 => rfl
                    case hy72 => (intro w hSw; (try dsimp only at hSw); go_simp; try with_reducible rfl)
                    try simp only [Act.put, List.setIfInBounds_toArray, List.set_cons_zero, List.set_cons_succ]
                    refine take_yes (i := 7) (oi := ?o73) (d := (some 95)) (v := ?v73) ?hi73 (by kernel_rfl) (by kernel_rfl) (by kernel_rfl) (fun _ _ _ h => h) ?hd73 ?hw73 ?hy73 (by assumption) ?_
                    case hi73 => (simp only [List.getElem?_toArray, List.getElem?_cons_zero, List.getElem?_cons_succ]; exact rfl)
                    case hd73 => rfl
                    case hw73 => rfl
                    case hy73 => (intro w hSw; (try dsimp only at hSw); go_simp; try with_reducible rfl)
                    try simp only [Act.put, List.setIfInBounds_toArray, List.set_cons_zero, List.set_cons_succ]
                    refine take_yes (i := 8) (oi := ?o74) (d := (some 96)) (v := ?v74) ?hi74 (by kernel_rfl) (by kernel_rfl) (by kernel_rfl) (fun _ _ _ h => h) ?hd74 ?hw74 ?hy74 (by assumption) ?_
                    case hi74 => (simp only [List.getElem?_toArray, List.getElem?_cons_zero, List.getElem?_cons_succ]; exact rfl)
                    case hd74 => rfl
                    case hw74 => rfl
                    case hy74 => (intro w hSw; (try dsimp only at hSw); go_simp; try with_reducible rfl)
                    try simp only [Act.put, List.setIfInBounds_toArray, List.set_cons_zero, List.set_cons_succ]
                    refine wpAnyH_ready (rs := [9]) (by kernel_rfl) (by simp) ?_
                    refine AllReadyH.cons rfl (fun K hK => ?_) AllReadyH.nil
                    go_simp
                    (go_at_call 84; refine (HMS.out _).mono ?_; rintro e w9 ⟨rfl, hb9⟩; have hbz9 := ext_trans hHeld.2.2.2.2 hb9)
                    go_wp2_with fail
                    refine hK.out _ _ (by exact HCS _ (by assumption)) (fun hHeld9 => ?_)
                    clear hK K
                    try simp only [Act.put, List.setIfInBounds_toArray, List.set_cons_zero, List.set_cons_succ]
                    refine take_yes (i := 10) (oi := ?o75) (d := (some 98)) (v := ?v75) ?hi75 (by kernel_rfl) (by kernel_rfl) (by kernel_rfl) (fun _ _ _ h => h) ?hd75 ?hw75 ?hy75 (by assumption) ?_
                    case hi75 => (simp only [List.getElem?_toArray, List.getElem?_cons_zero, List.getElem?_cons_succ]; exact rfl)
                    case hd75 => rfl
                    case hw75 => rfl
                    case hy75 => (intro w hSw; (try dsimp only at hSw); go_simp; try with_reducible rfl)
                    try simp only [Act.put, List.setIfInBounds_toArray, List.set_cons_zero, List.set_cons_succ]
                    refine take_yes (i := 11) (oi := ?o76) (d := (some 99)) (v := ?v76) ?hi76 (by kernel_rfl) (by kernel_rfl) (by kernel_rfl) (fun _ _ _ h => h) ?hd76 ?hw76 ?hy76 (by assumption) ?_
                    case hi76 => (simp only [List.getElem?_toArray, List.getElem?_cons_zero, List.getElem?_cons_succ]; exact rfl)
                    case hd76 => rfl
                    case hw76 => rfl
                    case hy76 => (intro w hSw; (try dsimp only at hSw); go_simp; try with_reducible rfl)
                    try simp only [Act.put, List.setIfInBounds_toArray, List.set_cons_zero, List.set_cons_succ]
                    refine take_yes (i := 12) (oi := ?o77) (d := (some 100)) (v := ?v77) ?hi77 (by kernel_rfl) (by kernel_rfl) (by kernel_rfl) (fun _ _ _ h => h) ?hd77 ?hw77 ?hy77 (by assumption) ?_
                    case hi77 => (simp only [List.getElem?_toArray, List.getElem?_cons_zero, List.getElem?_cons_succ]; exact rfl)
                    case hd77 => rfl
                    case hw77 => rfl
                    case hy77 => (intro w hSw; (try dsimp only at hSw); go_simp; try with_reducible rfl)
                    try simp only [Act.put, List.setIfInBounds_toArray, List.set_cons_zero, List.set_cons_succ]
                    refine take_yes (i := 13) (oi := ?o78) (d := (some 101)) (v := ?v78) ?hi78 (by kernel_rfl) (by kernel_rfl) (by kernel_rfl) (fun _ _ _ h => h) ?hd78 ?hw78 ?hy78 (by assumption) ?_
                    case hi78 => (simp only [List.getElem?_toArray, List.getElem?_cons_zero, List.getElem?_cons_succ]; exact rfl)
                    case hd78 => rfl
                    case hw78 => rfl
                    case hy78 => (intro w hSw; (try dsimp only at hSw); go_simp; try with_reducible rfl)
                    try simp only [Act.put, List.setIfInBounds_toArray, List.set_cons_zero, List.set_cons_succ]
                    refine take_yes (i := 14) (oi := ?o79) (d := (some 102)) (v := ?v79) ?hi79 (by kernel_rfl) (by kernel_rfl) (by kernel_rfl) (fun _ _ _ h => h) ?hd79 ?hw79 ?hy79 (by assumption) ?_
                    case hi79 => (simp only [List.getElem?_toArray, List.getElem?_cons_zero, List.getElem?_cons_succ]; exact rfl)
                    case hd79 => rfl
                    case hw79 => rfl
                    case hy79 => (intro w hSw; (try dsimp only at hSw); go_simp; try with_reducible rfl)
                    try simp only [Act.put, List.setIfInBounds_toArray, List.set_cons_zero, List.set_cons_succ]
                    refine take_yes (i := 15) (oi := ?o80) (d := (some 103)) (v := ?v80) ?hi80 (by kernel_rfl) (by kernel_rfl) (by kernel_rfl) (fun _ _ _ h => h) ?hd80 ?hw80 ?hy80 (by assumption) ?_
                    case hi80 => (simp only [List.getElem?_toArray, List.getElem?_cons_zero, List.getElem?_cons_succ]; exact rfl)
                    case hd80 => rfl
                    case hw80 => rfl
                    case hy80 => (intro w hSw; (try dsimp only at hSw); go_simp; try with_reducible rfl)
                    try simp only [Act.put, List.setIfInBounds_toArray, List.set_cons_zero, List.set_cons_succ]
                    refine take_yes (i := 16) (oi := ?o81) (d := (some 104)) (v := ?v81) ?hi81 (by kernel_rfl) (by kernel_rfl) (by kernel_rfl) (fun _ _ _ h => h) ?hd81 ?hw81 ?hy81 (by assumption) ?_
                    case hi81 => (simp only [List.getElem?_toArray, List.getElem?_cons_zero, List.getElem?_cons_succ]; exact rfl)
                    case hd81 => rfl
                    case hw81 => rfl
                    case hy81 => (intro w hSw; (try dsimp only at hSw); go_simp; try with_reducible rfl)
                    try simp only [Act.put, List.setIfInBounds_toArray, List.set_cons_zero, List.set_cons_succ]
                    refine take_yes (i := 17) (oi := ?o82) (d := (some 105)) (v := ?v82) ?hi82 (by kernel_rfl) (by kernel_rfl) (by kernel_rfl) (fun _ _ _ h => h) ?hd82 ?hw82 ?hy82 (by assumption) ?_
                    case hi82 => (simp only [List.getElem?_toArray, List.getElem?_cons_zero, List.getElem?_cons_succ]; exact rfl)
                    case hd82 => rfl
                    case hw82 => rfl
                    case hy82 => (intro w hSw; (try dsimp only at hSw); go_simp; try with_reducible rfl)
                    try simp only [Act.put, List.setIfInBounds_toArray, List.set_cons_zero, List.set_cons_succ]
                    refine take_yes (i := 18) (oi := ?o83) (d := (some 106)) (v := ?v83) ?hi83 (by kernel_rfl) (by kernel_rfl) (by kernel_rfl) (fun _ _ _ h => h) ?hd83 ?hw83 ?hy83 (by assumption) ?_
                    case hi83 => (simp only [List.getElem?_toArray, List.getElem?_cons_zero, List.getElem?_cons_succ]; exact rfl)
                    case hd83 => rfl
                    case hw83 => rfl
                    case hy83 => (intro w hSw; (try dsimp only at hSw); go_simp; try with_reducible rfl)
                    try simp only [Act.put, List.setIfInBounds_toArray, List.set_cons_zero, List.set_cons_succ]
                    refine take_yes (i := 19) (oi := ?o84) (d := (some 107)) (v := ?v84) ?hi84 (by kernel_rfl) (by kernel_rfl) (by kernel_rfl) (fun _ _ _ h => h) ?hd84 ?hw84 ?hy84 (by assumption) ?_
                    case hi84 => (simp only [List.getElem?_toArray, List.getElem?_cons_zero, List.getElem?_cons_succ]; exact rfl)
                    case hd84 => rfl
                    case hw84 => rfl
                    case hy84 => (intro w hSw; (try dsimp only at hSw); go_simp; try with_reducible rfl)
                    try simp only [Act.put, List.setIfInBounds_toArray, List.set_cons_zero, List.set_cons_succ]
                    refine take_yes (i := 20) (oi := ?o85) (d := (some 108)) (v := ?v85) ?hi85 (by kernel_rfl) (by kernel_rfl) (by kernel_rfl) (fun _ _ _ h => h) ?hd85 ?hw85 ?hy85 (by assumption) ?_
                    case hi85 => (simp only [List.getElem?_toArray, List.getElem?_cons_zero, List.getElem?_cons_succ]; exact rfl)
                    case hd85 => rfl
                    case hw85 => rfl
                    case hy85 => (intro w hSw; (try dsimp only at hSw); go_simp; try with_reducible rfl)
                    try simp only [Act.put, List.setIfInBounds_toArray, List.set_cons_zero, List.set_cons_succ]
                    refine take_no (i := 21) (oi := ?o86) (d := (some 109)) ?hi86 (by kernel_rfl) (by kernel_rfl) (by kernel_rfl) (fun _ _ _ h => h) ?hd86 ?hw86 (by assumption) ?_
                    case hi86 => (simp only [List.getElem?_toArray, List.getElem?_cons_zero, List.getElem?_cons_succ]; exact rfl)
                    case hd86 => rfl
                    case hw86 => rfl
                    try simp only [Act.put, List.setIfInBounds_toArray, List.set_cons_zero, List.set_cons_succ]
                    refine take_no (i := 22) (oi := ?o87) (d := (some 110)) ?hi87 (by kernel_rfl) (by kernel_rfl) (by kernel_rfl) (fun _ _ _ h => h) ?hd87 ?hw87 (by assumption) ?_
                    case hi87 => (simp only [List.getElem?_toArray, List.getElem?_cons_zero, List.getElem?_cons_succ]; exact rfl)
                    case hd87 => rfl
                    case hw87 => rfl
                    try simp only [Act.put, List.setIfInBounds_toArray, List.set_cons_zero, List.set_cons_succ]
                    refine take_no (i := 23) (oi := ?o88) (d := (some 111)) ?hi88 (by kernel_rfl) (by kernel_rfl) (by kernel_rfl) (fun _ _ _ h => h) ?hd88 ?hw88 (by assumption) ?_
                    case hi88 => (simp only [List.getElem?_toArray, List.getElem?_cons_zero, List.getElem?_cons_succ]; exact rfl)
                    case hd88 => rfl
                    case hw88 => rfl
                    try simp only [Act.put, List.setIfInBounds_toArray, List.set_cons_zero, List.set_cons_succ]
                    refine take_no (i := 24) (oi := ?o89) (d := (some 112)) ?hi89 (by kernel_rfl) (by kernel_rfl) (by kernel_rfl) (fun _ _ _ h => h) ?hd89 ?hw89 (by assumption) ?_
                    case hi89 => (simp only [List.getElem?_toArray, List.getElem?_cons_zero, List.getElem?_cons_succ]; exact rfl)
                    case hd89 => rfl
                    case hw89 => rfl
                    try simp only [Act.put, List.setIfInBounds_toArray, List.set_cons_zero, List.set_cons_succ]
                    refine take_no (i := 25) (oi := ?o90) (d := (some 113)) ?hi90 (by kernel_rfl) (by kernel_rfl) (by kernel_rfl) (fun _ _ _ h => h) ?hd90 ?hw90 (by assumption) ?_
                    case hi90 => (simp only [List.getElem?_toArray, List.getElem?_cons_zero, List.getElem?_cons_succ]; exact rfl)
                    case hd90 => rfl
                    case hw90 => rfl
                    try simp only [Act.put, List.setIfInBounds_toArray, List.set_cons_zero, List.set_cons_succ]
                    refine take_no (i := 26) (oi := ?o91) (d := (some 114)) ?hi91 (by kernel_rfl) (by kernel_rfl) (by kernel_rfl) (fun _ _ _ h => h) ?hd91 ?hw91 (by assumption) ?_
                    case hi91 => (simp only [List.getElem?_toArray, List.getElem?_cons_zero, List.getElem?_cons_succ]; exact rfl)
                    case hd91 => rfl
                    case hw91 => rfl
                    try simp only [Act.put, List.setIfInBounds_toArray, List.set_cons_zero, List.set_cons_succ]
                    refine take_no (i := 27) (oi := ?o92) (d := (some 115)) ?hi92 (by kernel_rfl) (by kernel_rfl) (by kernel_rfl) (fun _ _ _ h => h) ?hd92 ?hw92 (by assumption) ?_
                    case hi92 => (simp only [List.getElem?_toArray, List.getElem?_cons_zero, List.getElem?_cons_succ]; exact rfl)
                    case hd92 => rfl
                    case hw92 => rfl
                    try simp only [Act.put, List.setIfInBounds_toArray, List.set_cons_zero, List.set_cons_succ]
                    refine take_no (i := 28) (oi := ?o93) (d := (some 116)) ?hi93 (by kernel_rfl) (by kernel_rfl) (by kernel_rfl) (fun _ _ _ h => h) ?hd93 ?hw93 (by assumption) ?_
                    case hi93 => (simp only [List.getElem?_toArray, List.getElem?_cons_zero, List.getElem?_cons_succ]; exact rfl)
                    case hd93 => rfl
                    case hw93 => rfl
                    try simp only [Act.put, List.setIfInBounds_toArray, List.set_cons_zero, List.set_cons_succ]
                    refine take_no (i := 29) (oi := ?o94) (d := (some 117)) ?hi94 (by kernel_rfl) (by kernel_rfl) (by kernel_rfl) (fun _ _ _ h => h) ?hd94 ?hw94 (by assumption) ?_
                    case hi94 => (simp only [List.getElem?_toArray, List.getElem?_cons_zero, List.getElem?_cons_succ]; exact rfl)
                    case hd94 => rfl
                    case hw94 => rfl
                    try simp only [Act.put, List.setIfInBounds_toArray, List.set_cons_zero, List.set_cons_succ]
                    refine take_no (i := 30) (oi := ?o95) (d := (some 118)) ?hi95 (by kernel_rfl) (by kernel_rfl) (by kernel_rfl) (fun _ _ _ h => h) ?hd95 ?hw95 (by assumption) ?_
                    case hi95 => (simp only [List.getElem?_toArray, List.getElem?_cons_zero, List.getElem?_cons_succ]; exact rfl)
                    case hd95 => rfl
                    case hw95 => rfl
                    try simp only [Act.put, List.setIfInBounds_toArray, List.set_cons_zero, List.set_cons_succ]
                    refine take_no (i := 31) (oi := ?o96) (d := (some 119)) ?hi96 (by kernel_rfl) (by kernel_rfl) (by kernel_rfl) (fun _ _ _ h => h) ?hd96 ?hw96 (by assumption) ?_
                    case hi96 => (simp only [List.getElem?_toArray, List.getElem?_cons_zero, List.getElem?_cons_succ]; exact rfl)
                    case hd96 => rfl
                    case hw96 => rfl
                    try simp only [Act.put, List.setIfInBounds_toArray, List.set_cons_zero, List.set_cons_succ]
                    refine take_no (i := 32) (oi := ?o97) (d := (some 120)) ?hi97 (by kernel_rfl) (by kernel_rfl) (by kernel_rfl) (fun _ _ _ h => h) ?hd97 ?hw97 (by assumption) ?_
                    case hi97 => (simp only [List.getElem?_toArray, List.getElem?_cons_zero, List.getElem?_cons_succ]; exact rfl)
                    case hd97 => rfl
                    case hw97 => rfl
                    try simp only [Act.put, List.setIfInBounds_toArray, List.set_cons_zero, List.set_cons_succ]
                    refine take_yes (i := 33) (oi := ?o98) (d := (some 121)) (v := ?v98) ?hi98 (by kernel_rfl) (by kernel_rfl) (by kernel_rfl) (fun _ _ _ h => h) ?hd98 ?hw98 ?hy98 (by assumption) ?_
                    case hi98 => (simp only [List.getElem?_toArray, List.getElem?_cons_zero, List.getElem?_cons_succ]; exact rfl)
                    case hd98 => rfl
                    case hw98 => rfl
                    case hy98 => (intro w hSw; (try dsimp only at hSw); go_simp; try with_reducible rfl)
                    try simp only [Act.put, List.setIfInBounds_toArray, List.set_cons_zero, List.set_cons_succ]
                    refine take_yes (i := 34) (oi := ?o99) (d := (some 122)) (v := ?v99) ?hi99 (by kernel_rfl) (by kernel_rfl) (by kernel_rfl) (fun _ _ _ h => h) ?hd99 ?hw99 ?hy99 (by assumption) ?_
                    case hi99 => (simp only [List.getElem?_toArray, List.getElem?_cons_zero, List.getElem?_cons_succ]; exact rfl)
                    case hd99 => rfl
                    case hw99 => rfl
                    case hy99 => (intro w hSw; (try dsimp only at hSw); go_simp; try with_reducible rfl)
                    try simp only [Act.put, List.setIfInBounds_toArray, List.set_cons_zero, List.set_cons_succ]
                    refine wpAnyH_done (by kernel_rfl) ?_ _
                    go_wp2_with fail
                    go_roundw
                    case rel => exact ⟨i + 1, by omega, by go_num, HINV6.out.below hHeld9.2.2.2.2⟩
                    case measure => simp [intOf]; omega
                · obtain rfl : i = N q + 64 := by omega
                  have HINV6 := Lib.hid hinv
                  clear hinv
                  go_wp2_with fail
                  go_roundw
                  case rel => exact ⟨q + 1, by omega, by go_num, HINV6.out⟩
                  case measure => simp [intOf]; omega
            · obtain rfl : q = j := by omega
              have HINV5 := Lib.hid hinv
              clear hinv
              have h70 : Inv7 q G N C w top gsb cs 0 wr := ⟨HINV5.out.1, fun p hp => absurd hp (by omega), HINV5.out.2.2.1, HINV5.out.2.2.2⟩
              have H70 := Lib.hid h70
              clear h70
              go_wp2_with fail
              go_loopw [11] (fun p wr => ∃ (p' tp : Nat) (cs : Array Value), p' ≤ q ∧ p = .int .i64 p' ∧ cs.size = q ∧ gsb < tp ∧ w.heap.size ≤ tp ∧ Inv7 q G N C w tp gsb cs p' wr) (fun p _ => (q - intOf p).toNat)
              case atStart => exact ⟨0, top, cs, by omega, rfl, hcz, hgo, by omega, H70.out⟩
              case round =>
                clear H70 HINV5 HINV hcz hgo hlo
                obtain ⟨p, tp, cs, hp, rfl, hcz, hgo, hwtp, hinv⟩ := hrel
                by_cases h7 : p < q
                · obtain ⟨hn1, hn2⟩ := hN p h7
                  have hp1 : (p : Int) < (q : Int) := by omega
                  have HI7 := Lib.hid hinv
                  have htpl := hinv.2.2.2.2
                  clear hinv
                  go_wp2_with (refine wpList_make_full _ rfl _ _ 48 rfl wr.heap.size 59 i0 (.agg #[.int .i64 0, .int .i64 0]) 2 Tryd.underlying48 hi hz0 hz1 .i64 .i64 _ _ 64 rfl rfl rfl rfl (by rw [hz2]; omega) (by unfold maxLen; omega) (Nat.le_refl _) ?_; intro w5 hown5 hg5; have HO5 := Lib.hid (many_made (z := #[]) hown5); have HG5 := Lib.hid hg5; clear hown5 hg5)
                  have h7b := HI7.out.below (grown_none HG5.out)
                  have H7B := Lib.hid h7b
                  obtain ⟨mb, hmb⟩ : ∃ mb, mb = wr.heap.size := ⟨_, rfl⟩
                  have HMB := Lib.hid hmb
                  have hmbt : tp ≤ mb := by omega
                  have HM5 : Many w5 mb := by rw [hmb]; exact HO5.out
                  rw [← hmb]
                  have HMM := Lib.hid HM5
                  clear hmb HM5 h7b HO5 HG5 HI7
                  rename World => w5'
                  go_loopw [13] (fun i wi => ∃ i' : Nat, i' ≤ 64 ∧ i = .int .i64 i' ∧ Inv7 q G N C w tp gsb cs p wi ∧ Many wi mb) (fun i _ => (64 - intOf i).toNat)
                  case atStart => exact ⟨0, by omega, rfl, H7B.out, HMM.out⟩
                  case round =>
                    clear H7B HMM
                    obtain ⟨i, hi8, rfl, hinv, hmany⟩ := hrel
                    have HI8 := Lib.hid hinv; have HMN := Lib.hid hmany
                    have hszi := hinv.2.2.2.2
                    have hmbl := hmany.lt
                    by_cases h8 : i < 64
                    · clear hinv hmany
                      go_wp2_with fail
                      refine (MarkSpan (p + q) i _ _ (by simp) rfl (by omega) (by omega) _).mono ?_
                      rintro e w4 ⟨rfl, hb4⟩
                      have HM4 := Lib.hid (HMN.out.keep hb4)
                      obtain ⟨⟨u0, y0⟩, m0⟩ := HM4.out.there (show i * 2 < 128 by omega)
                      obtain ⟨⟨u1, y1⟩, m1⟩ := HM4.out.there (show i * 2 + 1 < 128 by omega)
                      have HI9 := Lib.hid (HI8.out.below hb4)
                      clear hb4
                      go_wp2_with fail
                      go_roundw
                      case rel =>
                        have hg1 : ∀ (W : World) (x : Nat) (u : Value), W.grownBy (W.setCell ⟨mb, x, none⟩ u) (some mb) := fun W x u => (only_setCells mb [u] x W).1
                        exact ⟨i + 1, by omega, by go_num, (HI9.out.turn (hg1 _ _ _) HGLT.out HNE.out h7 hgo hwtp (.inr hmbt)).turn (hg1 _ _ _) HGLT.out HNE.out h7 hgo hwtp (.inr hmbt), (HM4.out.put _ _ rfl).put _ _ rfl⟩
                      case measure => simp [intOf]; omega
                    · obtain rfl : i = 64 := by omega
                      have z2 : wr.cell? ⟨hd, p, none⟩ = some (.slice (some ⟨G p, 0, none⟩) (N p) (C p)) := HH.out.tch hinv.2.2.2.1 hdl HSH.out p h7
                      obtain ⟨news, hw1, hw2, hw3⟩ := hmany.list
                      have HW2 := Lib.hid hw2; have HW3 := Lib.hid hw3
                      obtain ⟨olds, ho1, ho2, ho3⟩ := (hinv.2.2.1 p h7).olds hn1
                      have HO2 := Lib.hid ho2; have HO3 := Lib.hid ho3
                      have hcj : cs[p]? = some (cs[p]'(by omega)) := Array.getElem?_eq_getElem _
                      clear hw2 hw3 ho2 ho3 hinv hmany
                      by_cases hroom : N p + 64 ≤ C p
                      · have hrb := (HI8.out.2.2.1 p h7).room news (by omega)
                        have H10 := Lib.hid (HI8.out.turn hrb.2 HGLT.out HNE.out h7 hgo hwtp (.inl ⟨rfl, hrb.1⟩))
                        have HRB := Lib.hid hrb.1
                        have y0 := (H10.out.1.cell p).trans hcj
                        have m0 := H10.out.1.mark p
                        clear hrb
                        go_wp2_with (at_builtin; refine wpList_append_arg _ rfl (.tmp 148) (.tmp 149) 48 rfl 59 i0 (.agg #[.int .i64 0, .int .i64 0]) 2 16 Tryd.underlying48 hi hz0 hz1 hz2 rfl (by decide) (G p) 0 (N p) (C p) olds rfl ho1 HO2.out ⟨mb, 0, none⟩ 64 64 news rfl hw1 HW2.out HW3.out (fun _ s hs => by have := (HI8.out.2.2.1 p h7).there (j := 0 + N p * 2 + s) (by omega); exact ⟨by obtain ⟨u, hu⟩ := this.1; rw [hu]; rfl, this.2⟩) (by unfold maxLen; omega) (by omega) (fun _ => ?_) (fun hc => absurd hroom (by omega)); rw [Nat.zero_add])
                        go_roundw
                        case rel =>
                          have hn9 := H10.out.next HRB.out (.inl rfl) h7 hcz HGLT.out hgo hgw
                          exact ⟨p + 1, _, _, by omega, by go_num, by rw [Array.size_setIfInBounds]; exact hcz, hn9.1.lt, hn9.2.2.2.1.size, hn9⟩
                        case measure => simp [intOf]; omega
                      · go_wp2_with (at_builtin; refine wpList_append_arg _ rfl (.tmp 148) (.tmp 149) 48 rfl 59 i0 (.agg #[.int .i64 0, .int .i64 0]) 2 16 Tryd.underlying48 hi hz0 hz1 hz2 rfl (by decide) (G p) 0 (N p) (C p) olds rfl ho1 HO2.out ⟨mb, 0, none⟩ 64 64 news rfl hw1 HW2.out HW3.out (fun hc => absurd hc hroom) (by unfold maxLen; omega) (by omega) (fun hc => absurd hc hroom) (fun _ v6 w6 hown6 hg6 => ?_); obtain ⟨g6, c6, rfl, hb6, hl6⟩ := Blk.ofOwn2 hown6 (by omega) ho1 HO3.out; have HB6 := Lib.hid hb6; have H10 := Lib.hid (HI8.out.below (grown_none hg6)); have y0 := (H10.out.1.cell p).trans hcj; have m0 := H10.out.1.mark p; clear hown6 hg6 hb6)
                        go_roundw
                        case rel =>
                          have hn9 := H10.out.next HB6.out (.inr (by omega)) h7 hcz HGLT.out hgo hgw
                          exact ⟨p + 1, _, _, by omega, by go_num, by rw [Array.size_setIfInBounds]; exact hcz, hn9.1.lt, hn9.2.2.2.1.size, hn9⟩
                        case measure => simp [intOf]; omega
                · obtain rfl : p = q := by omega
                  have HI7 := Lib.hid hinv
                  clear hinv
                  go_wp2_with fail
                  go_loopw [14] (fun s wr => ∃ s' : Nat, s' ≤ p ∧ s = .int .i64 s' ∧ Inv7 p G N C w tp gsb cs p wr) (fun s _ => (p - intOf s).toNat)
                  case atStart => exact ⟨0, by omega, rfl, HI7.out⟩
                  case round =>
                    clear HI7
                    obtain ⟨s, hs, rfl, hinv⟩ := hrel
                    by_cases h9 : s < p
                    · obtain ⟨hn1, hn2⟩ := hN s h9
                      have hs1 : (s : Int) < (p : Int) := by omega
                      obtain ⟨g, c, hv, _⟩ := hinv.2.1 s h9
                      have z2 : wr.cell? ⟨hd, s, none⟩ = some (.slice (some ⟨G s, 0, none⟩) (N s) (C s)) := HH.out.tch hinv.2.2.2.1 hdl HSH.out s h9
                      have HV := Lib.hid hv
                      have HI9 := Lib.hid hinv
                      clear hinv hv
                      go_wp2_with fail
                      go_loopw [15] (fun i wi => ∃ i' : Nat, i' ≤ N s ∧ i = .int .i64 i' ∧ Inv7 p G N C w tp gsb cs p wi) (fun i _ => (N s - intOf i).toNat)
                      case atStart => exact ⟨0, by omega, rfl, HI9.out⟩
                      case round =>
                        clear HI9 z2
                        obtain ⟨i, hi9, rfl, hinv⟩ := hrel
                        have z1 : wr.cell? ⟨gsb, s, none⟩ = some (.slice (some ⟨g, 0, none⟩) (N s + 64) c) := (hinv.1.cell s).trans HV.out
                        have z2 : wr.cell? ⟨hd, s, none⟩ = some (.slice (some ⟨G s, 0, none⟩) (N s) (C s)) := HH.out.tch hinv.2.2.2.1 hdl HSH.out s h9
                        by_cases h10 : i < N s
                        · obtain ⟨z3, z4⟩ := (hinv.row h9 HV.out).cell h10
                          obtain ⟨z5, z6⟩ := (hinv.2.2.1 s h9).cell h10
                          have hi1 : (i : Int) < (N s : Int) := by omega
                          have hi2 : (i : Int) < (N s : Int) + 64 := by omega
                          have hi0 : (0 : Int) ≤ (i : Int) := by omega
                          obtain ⟨M, hM⟩ : ∃ M, mkI s i = M := ⟨_, rfl⟩
                          have hms : ∀ W : World, Calls Tryd.prog 84 #[.int .i64 s, .int .i64 i] W fun e w' => e = .returned (.agg #[.int .i64 M, .int .i64 0]) ∧ Below W.heap.size W w' := fun W => by rw [← hM]; exact MarkSpan s i _ _ rfl rfl (by omega) (by omega) W
                          have HMS := Lib.hid hms
                          rw [hM] at z3 z5
                          have HCS : (∀ w', Below wr.heap.size wr w' → (w'.cell? ⟨gsb, s, none⟩ = some (.slice (some ⟨g, 0, none⟩) (N s + 64) c) ∧ w'.cell? ⟨hd, s, none⟩ = some (.slice (some ⟨G s, 0, none⟩) (N s) (C s)) ∧ w'.cell? ⟨g, i * 2, none⟩ = some (.int .i64 M) ∧ w'.cell? ⟨g, i * 2 + 1, none⟩ = some (.int .i64 0) ∧ w'.cell? ⟨G s, i * 2, none⟩ = some (.int .i64 M) ∧ w'.cell? ⟨G s, i * 2 + 1, none⟩ = some (.int .i64 0) ∧ Below wr.heap.size wr w')) := fun w' hb => ⟨cell_lift z1 hb, cell_lift z2 hb, cell_lift z3 hb, cell_lift z4 hb, cell_lift z5 hb, cell_lift z6 hb, hb⟩
                          have HI10 := Lib.hid hinv
                          clear hinv hms hM
                          go_wp2_with fail
                          refine wp_region_held_drew (S := (fun w' => w'.cell? ⟨gsb, s, none⟩ = some (.slice (some ⟨g, 0, none⟩) (N s + 64) c) ∧ w'.cell? ⟨hd, s, none⟩ = some (.slice (some ⟨G s, 0, none⟩) (N s) (C s)) ∧ w'.cell? ⟨g, i * 2, none⟩ = some (.int .i64 M) ∧ w'.cell? ⟨g, i * 2 + 1, none⟩ = some (.int .i64 0) ∧ w'.cell? ⟨G s, i * 2, none⟩ = some (.int .i64 M) ∧ w'.cell? ⟨G s, i * 2 + 1, none⟩ = some (.int .i64 0) ∧ Below wr.heap.size wr w')) (by kernel_rfl) (by exact HCS _ (ext_drew (Below.refl _ _))) (fun hHeld => ?_)
                          refine take_yes (i := 0) (oi := ?o9) (d := (some 167)) (v := ?v9) ?hi9 (by kernel_rfl) (by kernel_rfl) (by kernel_rfl) (fun _ _ _ h => h) ?hd9 ?hw9 ?hy9 (by assumption) ?_
                          case hi9 => (simp only [List.getElem?_toArray, List.getElem?_cons_zero]; exact rfl)
                          case hd9 => rfl
                          case hw9 => rfl
                          case hy9 => (intro w hSw; (try dsimp only at hSw); go_simp; try with_reducible rfl)
                          try simp only [Act.put, List.setIfInBounds_toArray, List.set_cons_zero, List.set_cons_succ]
                          refine take_yes (i := 1) (oi := ?o10) (d := (some 168)) (v := ?v10) ?hi10 (by kernel_rfl) (by kernel_rfl) (by kernel_rfl) (fun _ _ _ h => h) ?hd10 ?hw10 ?hy10 (by assumption) ?_
                          case hi10 => (simp only [List.getElem?_toArray, List.getElem?_cons_zero, List.getElem?_cons_succ]; exact rfl)
                          case hd10 => rfl
                          case hw10 => rfl
                          case hy10 => (intro w hSw; (try dsimp only at hSw); go_simp; try with_reducible rfl)
                          try simp only [Act.put, List.setIfInBounds_toArray, List.set_cons_zero, List.set_cons_succ]
                          refine take_yes (i := 2) (oi := ?o11) (d := (some 169)) (v := ?v11) ?hi11 (by kernel_rfl) (by kernel_rfl) (by kernel_rfl) (fun _ _ _ h => h) ?hd11 ?hw11 ?hy11 (by assumption) ?_
                          case hi11 => (simp only [List.getElem?_toArray, List.getElem?_cons_zero, List.getElem?_cons_succ]; exact rfl)
                          case hd11 => rfl
                          case hw11 => rfl
                          case hy11 => (intro w hSw; (try dsimp only at hSw); go_simp; try with_reducible rfl)
                          try simp only [Act.put, List.setIfInBounds_toArray, List.set_cons_zero, List.set_cons_succ]
                          refine take_yes (i := 3) (oi := ?o12) (d := (some 170)) (v := ?v12) ?hi12 (by kernel_rfl) (by kernel_rfl) (by kernel_rfl) (fun _ _ _ h => h) ?hd12 ?hw12 ?hy12 (by assumption) ?_
                          case hi12 => (simp only [List.getElem?_toArray, List.getElem?_cons_zero, List.getElem?_cons_succ]; exact rfl)
                          case hd12 => rfl
                          case hw12 => rfl
                          case hy12 => (intro w hSw; (try dsimp only at hSw); go_simp; try with_reducible rfl)
                          try simp only [Act.put, List.setIfInBounds_toArray, List.set_cons_zero, List.set_cons_succ]
                          refine take_yes (i := 4) (oi := ?o13) (d := (some 171)) (v := ?v13) ?hi13 (by kernel_rfl) (by kernel_rfl) (by kernel_rfl) (fun _ _ _ h => h) ?hd13 ?hw13 ?hy13 (by assumption) ?_
                          case hi13 => (simp only [List.getElem?_toArray, List.getElem?_cons_zero, List.getElem?_cons_succ]; exact rfl)
                          case hd13 => rfl
                          case hw13 => rfl
                          case hy13 => (intro w hSw; (try dsimp only at hSw); go_simp; try with_reducible rfl)
                          try simp only [Act.put, List.setIfInBounds_toArray, List.set_cons_zero, List.set_cons_succ]
                          refine take_yes (i := 5) (oi := ?o14) (d := (some 172)) (v := ?v14) ?hi14 (by kernel_rfl) (by kernel_rfl) (by kernel_rfl) (fun _ _ _ h => h) ?hd14 ?hw14 ?hy14 (by assumption) ?_
                          case hi14 => (simp only [List.getElem?_toArray, List.getElem?_cons_zero, List.getElem?_cons_succ]; exact rfl)
                          case hd14 => rfl
                          case hw14 => rfl
                          case hy14 => (intro w hSw; (try dsimp only at hSw); go_simp; try with_reducible rfl)
                          try simp only [Act.put, List.setIfInBounds_toArray, List.set_cons_zero, List.set_cons_succ]
                          refine take_yes (i := 6) (oi := ?o15) (d := (some 173)) (v := ?v15) ?hi15 (by kernel_rfl) (by kernel_rfl) (by kernel_rfl) (fun _ _ _ h => h) ?hd15 ?hw15 ?hy15 (by assumption) ?_
                          case hi15 => (simp only [List.getElem?_toArray, List.getElem?_cons_zero, List.getElem?_cons_succ]; exact rfl)
                          case hd15 => rfl
                          case hw15 => rfl
                          case hy15 => (intro w hSw; (try dsimp only at hSw); go_simp; try with_reducible rfl)
                          try simp only [Act.put, List.setIfInBounds_toArray, List.set_cons_zero, List.set_cons_succ]
                          refine take_yes (i := 7) (oi := ?o16) (d := (some 174)) (v := ?v16) ?hi16 (by kernel_rfl) (by kernel_rfl) (by kernel_rfl) (fun _ _ _ h => h) ?hd16 ?hw16 ?hy16 (by assumption) ?_
                          case hi16 => (simp only [List.getElem?_toArray, List.getElem?_cons_zero, List.getElem?_cons_succ]; exact rfl)
                          case hd16 => rfl
                          case hw16 => rfl
                          case hy16 => (intro w hSw; (try dsimp only at hSw); go_simp; try with_reducible rfl)
                          try simp only [Act.put, List.setIfInBounds_toArray, List.set_cons_zero, List.set_cons_succ]
                          refine take_yes (i := 8) (oi := ?o17) (d := (some 175)) (v := ?v17) ?hi17 (by kernel_rfl) (by kernel_rfl) (by kernel_rfl) (fun _ _ _ h => h) ?hd17 ?hw17 ?hy17 (by assumption) ?_
                          case hi17 => (simp only [List.getElem?_toArray, List.getElem?_cons_zero, List.getElem?_cons_succ]; exact rfl)
                          case hd17 => rfl
                          case hw17 => rfl
                          case hy17 => (intro w hSw; (try dsimp only at hSw); go_simp; try with_reducible rfl)
                          try simp only [Act.put, List.setIfInBounds_toArray, List.set_cons_zero, List.set_cons_succ]
                          refine wpAnyH_ready (rs := [9]) (by kernel_rfl) (by simp) ?_
                          refine AllReadyH.cons rfl (fun K hK => ?_) AllReadyH.nil
                          go_simp
                          (go_at_call 84; refine (HMS.out _).mono ?_; rintro e w9 ⟨rfl, hb9⟩; have hbz9 := ext_trans hHeld.2.2.2.2.2.2 hb9)
                          go_wp2_with fail
                          refine hK.out _ _ (by exact HCS _ (by assumption)) (fun hHeld9 => ?_)
                          clear hK K
                          try simp only [Act.put, List.setIfInBounds_toArray, List.set_cons_zero, List.set_cons_succ]
                          refine take_yes (i := 10) (oi := ?o18) (d := (some 177)) (v := ?v18) ?hi18 (by kernel_rfl) (by kernel_rfl) (by kernel_rfl) (fun _ _ _ h => h) ?hd18 ?hw18 ?hy18 (by assumption) ?_
                          case hi18 => (simp only [List.getElem?_toArray, List.getElem?_cons_zero, List.getElem?_cons_succ]; exact rfl)
                          case hd18 => rfl
                          case hw18 => rfl
                          case hy18 => (intro w hSw; (try dsimp only at hSw); go_simp; try with_reducible rfl)
                          try simp only [Act.put, List.setIfInBounds_toArray, List.set_cons_zero, List.set_cons_succ]
                          refine take_yes (i := 11) (oi := ?o19) (d := (some 178)) (v := ?v19) ?hi19 (by kernel_rfl) (by kernel_rfl) (by kernel_rfl) (fun _ _ _ h => h) ?hd19 ?hw19 ?hy19 (by assumption) ?_
                          case hi19 => (simp only [List.getElem?_toArray, List.getElem?_cons_zero, List.getElem?_cons_succ]; exact rfl)
                          case hd19 => rfl
                          case hw19 => rfl
                          case hy19 => (intro w hSw; (try dsimp only at hSw); go_simp; try with_reducible rfl)
                          try simp only [Act.put, List.setIfInBounds_toArray, List.set_cons_zero, List.set_cons_succ]
                          refine take_yes (i := 12) (oi := ?o20) (d := (some 179)) (v := ?v20) ?hi20 (by kernel_rfl) (by kernel_rfl) (by kernel_rfl) (fun _ _ _ h => h) ?hd20 ?hw20 ?hy20 (by assumption) ?_
                          case hi20 => (simp only [List.getElem?_toArray, List.getElem?_cons_zero, List.getElem?_cons_succ]; exact rfl)
                          case hd20 => rfl
                          case hw20 => rfl
                          case hy20 => (intro w hSw; (try dsimp only at hSw); go_simp; try with_reducible rfl)
                          try simp only [Act.put, List.setIfInBounds_toArray, List.set_cons_zero, List.set_cons_succ]
                          refine take_yes (i := 13) (oi := ?o21) (d := (some 180)) (v := ?v21) ?hi21 (by kernel_rfl) (by kernel_rfl) (by kernel_rfl) (fun _ _ _ h => h) ?hd21 ?hw21 ?hy21 (by assumption) ?_
                          case hi21 => (simp only [List.getElem?_toArray, List.getElem?_cons_zero, List.getElem?_cons_succ]; exact rfl)
                          case hd21 => rfl
                          case hw21 => rfl
                          case hy21 => (intro w hSw; (try dsimp only at hSw); go_simp; try with_reducible rfl)
                          try simp only [Act.put, List.setIfInBounds_toArray, List.set_cons_zero, List.set_cons_succ]
                          refine take_yes (i := 14) (oi := ?o22) (d := (some 181)) (v := ?v22) ?hi22 (by kernel_rfl) (by kernel_rfl) (by kernel_rfl) (fun _ _ _ h => h) ?hd22 ?hw22 ?hy22 (by assumption) ?_
                          case hi22 => (simp only [List.getElem?_toArray, List.getElem?_cons_zero, List.getElem?_cons_succ]; exact rfl)
                          case hd22 => rfl
                          case hw22 => rfl
                          case hy22 => (intro w hSw; (try dsimp only at hSw); go_simp; try with_reducible rfl)
                          try simp only [Act.put, List.setIfInBounds_toArray, List.set_cons_zero, List.set_cons_succ]
                          refine take_yes (i := 15) (oi := ?o23) (d := (some 182)) (v := ?v23) ?hi23 (by kernel_rfl) (by kernel_rfl) (by kernel_rfl) (fun _ _ _ h => h) ?hd23 ?hw23 ?hy23 (by assumption) ?_
                          case hi23 => (simp only [List.getElem?_toArray, List.getElem?_cons_zero, List.getElem?_cons_succ]; exact rfl)
                          case hd23 => rfl
                          case hw23 => rfl
                          case hy23 => (intro w hSw; (try dsimp only at hSw); go_simp; try with_reducible rfl)
                          try simp only [Act.put, List.setIfInBounds_toArray, List.set_cons_zero, List.set_cons_succ]
                          refine take_yes (i := 16) (oi := ?o24) (d := (some 183)) (v := ?v24) ?hi24 (by kernel_rfl) (by kernel_rfl) (by kernel_rfl) (fun _ _ _ h => h) ?hd24 ?hw24 ?hy24 (by assumption) ?_
                          case hi24 => (simp only [List.getElem?_toArray, List.getElem?_cons_zero, List.getElem?_cons_succ]; exact rfl)
                          case hd24 => rfl
                          case hw24 => rfl
                          case hy24 => (intro w hSw; (try dsimp only at hSw); go_simp; try with_reducible rfl)
                          try simp only [Act.put, List.setIfInBounds_toArray, List.set_cons_zero, List.set_cons_succ]
                          refine take_yes (i := 17) (oi := ?o25) (d := (some 184)) (v := ?v25) ?hi25 (by kernel_rfl) (by kernel_rfl) (by kernel_rfl) (fun _ _ _ h => h) ?hd25 ?hw25 ?hy25 (by assumption) ?_
                          case hi25 => (simp only [List.getElem?_toArray, List.getElem?_cons_zero, List.getElem?_cons_succ]; exact rfl)
                          case hd25 => rfl
                          case hw25 => rfl
                          case hy25 => (intro w hSw; (try dsimp only at hSw); go_simp; try with_reducible rfl)
                          try simp only [Act.put, List.setIfInBounds_toArray, List.set_cons_zero, List.set_cons_succ]
                          refine take_yes (i := 18) (oi := ?o26) (d := (some 185)) (v := ?v26) ?hi26 (by kernel_rfl) (by kernel_rfl) (by kernel_rfl) (fun _ _ _ h => h) ?hd26 ?hw26 ?hy26 (by assumption) ?_
                          case hi26 => (simp only [List.getElem?_toArray, List.getElem?_cons_zero, List.getElem?_cons_succ]; exact rfl)
                          case hd26 => rfl
                          case hw26 => rfl
                          case hy26 => (intro w hSw; (try dsimp only at hSw); go_simp; try with_reducible rfl)
                          try simp only [Act.put, List.setIfInBounds_toArray, List.set_cons_zero, List.set_cons_succ]
                          refine take_yes (i := 19) (oi := ?o27) (d := (some 186)) (v := ?v27) ?hi27 (by kernel_rfl) (by kernel_rfl) (by kernel_rfl) (fun _ _ _ h => h) ?hd27 ?hw27 ?hy27 (by assumption) ?_
                          case hi27 => (simp only [List.getElem?_toArray, List.getElem?_cons_zero, List.getElem?_cons_succ]; exact rfl)
                          case hd27 => rfl
                          case hw27 => rfl
                          case hy27 => (intro w hSw; (try dsimp only at hSw); go_simp; try with_reducible rfl)
                          try simp only [Act.put, List.setIfInBounds_toArray, List.set_cons_zero, List.set_cons_succ]
                          refine take_yes (i := 20) (oi := ?o28) (d := (some 187)) (v := ?v28) ?hi28 (by kernel_rfl) (by kernel_rfl) (by kernel_rfl) (fun _ _ _ h => h) ?hd28 ?hw28 ?hy28 (by assumption) ?_
                          case hi28 => (simp only [List.getElem?_toArray, List.getElem?_cons_zero, List.getElem?_cons_succ]; exact rfl)
                          case hd28 => rfl
                          case hw28 => rfl
                          case hy28 => (intro w hSw; (try dsimp only at hSw); go_simp; try with_reducible rfl)
                          try simp only [Act.put, List.setIfInBounds_toArray, List.set_cons_zero, List.set_cons_succ]
                          refine take_yes (i := 21) (oi := ?o29) (d := (some 188)) (v := ?v29) ?hi29 (by kernel_rfl) (by kernel_rfl) (by kernel_rfl) (fun _ _ _ h => h) ?hd29 ?hw29 ?hy29 (by assumption) ?_
                          case hi29 => (simp only [List.getElem?_toArray, List.getElem?_cons_zero, List.getElem?_cons_succ]; exact rfl)
                          case hd29 => rfl
                          case hw29 => rfl
                          case hy29 => (intro w hSw; (try dsimp only at hSw); go_simp; try with_reducible rfl)
                          try simp only [Act.put, List.setIfInBounds_toArray, List.set_cons_zero, List.set_cons_succ]
                          refine wpAnyH_ready (rs := [22]) (by kernel_rfl) (by simp) ?_
                          refine AllReadyH.cons rfl (fun K hK => ?_) AllReadyH.nil
                          go_simp
                          (go_at_call 84; refine (HMS.out _).mono ?_; rintro e w22 ⟨rfl, hb22⟩; have hbz22 := ext_trans hHeld9.2.2.2.2.2.2 hb22)
                          go_wp2_with fail
                          refine hK.out _ _ (by exact HCS _ (by assumption)) (fun hHeld22 => ?_)
                          clear hK K
                          try simp only [Act.put, List.setIfInBounds_toArray, List.set_cons_zero, List.set_cons_succ]
                          refine take_yes (i := 23) (oi := ?o30) (d := (some 190)) (v := ?v30) ?hi30 (by kernel_rfl) (by kernel_rfl) (by kernel_rfl) (fun _ _ _ h => h) ?hd30 ?hw30 ?hy30 (by assumption) ?_
                          case hi30 => (simp only [List.getElem?_toArray, List.getElem?_cons_zero, List.getElem?_cons_succ]; exact rfl)
                          case hd30 => rfl
                          case hw30 => rfl
                          case hy30 => (intro w hSw; (try dsimp only at hSw); go_simp; try with_reducible rfl)
                          try simp only [Act.put, List.setIfInBounds_toArray, List.set_cons_zero, List.set_cons_succ]
                          refine take_yes (i := 24) (oi := ?o31) (d := (some 191)) (v := ?v31) ?hi31 (by kernel_rfl) (by kernel_rfl) (by kernel_rfl) (fun _ _ _ h => h) ?hd31 ?hw31 ?hy31 (by assumption) ?_
                          case hi31 => (simp only [List.getElem?_toArray, List.getElem?_cons_zero, List.getElem?_cons_succ]; exact rfl)
                          case hd31 => rfl
                          case hw31 => rfl
                          case hy31 => (intro w hSw; (try dsimp only at hSw); go_simp; try with_reducible rfl)
                          try simp only [Act.put, List.setIfInBounds_toArray, List.set_cons_zero, List.set_cons_succ]
                          refine take_yes (i := 25) (oi := ?o32) (d := (some 192)) (v := ?v32) ?hi32 (by kernel_rfl) (by kernel_rfl) (by kernel_rfl) (fun _ _ _ h => h) ?hd32 ?hw32 ?hy32 (by assumption) ?_
                          case hi32 => (simp only [List.getElem?_toArray, List.getElem?_cons_zero, List.getElem?_cons_succ]; exact rfl)
                          case hd32 => rfl
                          case hw32 => rfl
                          case hy32 => (intro w hSw; (try dsimp only at hSw); go_simp; try with_reducible rfl)
                          try simp only [Act.put, List.setIfInBounds_toArray, List.set_cons_zero, List.set_cons_succ]
                          refine wpAnyH_done (by kernel_rfl) ?_ _
                          go_wp2_with fail
                          go_roundw
                          case rel => exact ⟨i + 1, by omega, by go_num, HI10.out.below hHeld22.2.2.2.2.2.2⟩
                          case measure => simp [intOf]; omega
                        · obtain rfl : i = N s := by omega
                          have HI10 := Lib.hid hinv
                          clear hinv
                          go_wp2_with fail
                          go_roundw
                          case rel => exact ⟨s + 1, by omega, by go_num, HI10.out⟩
                          case measure => simp [intOf]; omega
                    · obtain rfl : s = p := by omega
                      have HI10 := Lib.hid hinv
                      clear hinv
                      go_wp2_with fail
                      go_ret
                      exact ⟨rfl, HI10.out.2.2.2.1⟩
end Go.Proofs.YtablpncipkbfhaaDoor.Cab
