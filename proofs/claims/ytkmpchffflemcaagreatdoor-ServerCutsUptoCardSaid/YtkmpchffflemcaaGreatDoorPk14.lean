/- Packed: Flt, FltB0, Kt1, Kt2, Kt5. -/
import Derived.Test.YtkmpchffflemcaaGreatDoorPk6
import Derived.ArgAppend
import Derived.OwnWalk
import Derived.Test.YtkmpchffflemcaaGreatDoorPk3
import Derived.Test.YtkmpchffflemcaaGreatDoorPk11
import Derived.Laws.IdiomStrings
set_option linter.unusedVariables false
set_option linter.unusedSimpArgs false
/- Lists that lie apart, whatever their elements (of one cell each): marks, lists that grow. No program in sight. -/
section
set_option linter.unusedVariables false
set_option linter.unusedSimpArgs false
namespace Go.Proofs.YtkmpchffflemcaaGreatDoor.Fl
open Go.RowKit

/-- what a mark is: the element of place i in list q; whatever is done with new blocks, or with lists of type T or TL, it stays -/
structure ElOk (T TL : TypeId) (El : World → Nat → Nat → Value → Prop) : Prop where
  one : ∀ {w q i u}, El w q i u → u.oneCell' = true
  keep : ∀ {w w' q i u}, El w q i u → Below w.heap.size w w' → El w' q i u
  grown : ∀ {w w' q i u gg t cs}, El w q i u → Arr w gg t cs → (t = T ∨ t = TL) → w.grownBy w' (some gg) → El w' q i u
section
variable {T TL : TypeId} {El : World → Nat → Nat → Value → Prop}
/-- marks stay -/
def Ks (El : World → Nat → Nat → Value → Prop) (w w' : World) : Prop := ∀ q i u, El w q i u → El w' q i u
theorem ElOk.below (h : ElOk T TL El) {w w' : World} (hb : Below w.heap.size w w') : Ks El w w' := fun _ _ _ hu => h.keep hu hb
theorem ElOk.at (h : ElOk T TL El) {w w' : World} {gg : Nat} {t : TypeId} {cs : Array Value} (ha : Arr w gg t cs) (ht : t = T ∨ t = TL) (hg : w.grownBy w' (some gg)) : Ks El w w' := fun _ _ _ hu => h.grown hu ha ht hg
def Marked (El : World → Nat → Nat → Value → Prop) (w : World) (q n : Nat) (cur : Array Value) : Prop := ∀ i, i < n → ∃ u, cur[i]? = some u ∧ El w q i u
/-- a block with room for cap, the first n marked as list q's -/
def Blk (T : TypeId) (El : World → Nat → Nat → Value → Prop) (w : World) (g cap q n : Nat) : Prop := ∃ cur, Arr w g T cur ∧ cur.size = cap ∧ Marked El w q n cur
theorem Blk.lt {w : World} {g cap q n : Nat} (h : Blk T El w g cap q n) : g < w.heap.size := by
  obtain ⟨cur, h1, _⟩ := h; exact h1.lt
theorem Blk.same {w w' : World} {g cap q n : Nat} (h : Blk T El w g cap q n) (hk : Ks El w w') (e : w'.heap[g]? = w.heap[g]?) : Blk T El w' g cap q n := by
  obtain ⟨cur, h1, h2, h3⟩ := h
  exact ⟨cur, e.trans h1, h2, fun i hi => by obtain ⟨u, a, b⟩ := h3 i hi; exact ⟨u, a, hk _ _ _ b⟩⟩
theorem Blk.keep (hE : ElOk T TL El) {w w' : World} {g cap q n : Nat} (h : Blk T El w g cap q n) (hb : Below w.heap.size w w') : Blk T El w' g cap q n := h.same (hE.below hb) (hb.block g h.lt)
theorem Blk.less {w : World} {g cap q n n' : Nat} (h : Blk T El w g cap q n) (hn : n' ≤ n) : Blk T El w g cap q n' := by
  obtain ⟨cur, h1, h2, h3⟩ := h
  exact ⟨cur, h1, h2, fun i hi => h3 i (by omega)⟩
theorem Blk.cell {w : World} {g cap q n : Nat} (h : Blk T El w g cap q n) {i : Nat} (hi : i < n) : ∃ u, w.cell? ⟨g, i, none⟩ = some u ∧ El w q i u := by
  obtain ⟨cur, h1, h2, h3⟩ := h
  obtain ⟨u, a, b⟩ := h3 i hi
  exact ⟨u, (h1.cell i).trans a, b⟩
theorem Blk.there {w : World} {g cap q n : Nat} (h : Blk T El w g cap q n) {j : Nat} (hj : j < cap) : (∃ u, w.cell? ⟨g, j, none⟩ = some u) ∧ w.frozen? ⟨g, j, none⟩ = false := by
  obtain ⟨cur, h1, h2, h3⟩ := h
  exact ⟨⟨cur[j]'(by omega), (h1.cell j).trans (Array.getElem?_eq_getElem (show j < cur.size by omega))⟩, h1.mark j⟩
/-- cells behind the marks are written -/
theorem Blk.room (hE : ElOk T TL El) {w : World} {g cap q n o : Nat} (h : Blk T El w g cap q n) (news : List Value) (ho : n ≤ o) (hl : o + news.length ≤ cap) : Blk T El (w.setCells g o news) g cap q n ∧ w.grownBy (w.setCells g o news) (some g) := by
  obtain ⟨cur, h1, h2, h3⟩ := h
  obtain ⟨cs', a, b, _, d⟩ := arr_setCells g T news o w cur h1 (by omega)
  have hg := (only_setCells g news o w).1
  refine ⟨⟨cs', a, by omega, fun i hi => ?_⟩, hg⟩
  obtain ⟨u, e1, e2⟩ := h3 i hi
  exact ⟨u, (d _ (.inl (by omega))).trans e1, hE.grown e2 h1 (.inl rfl) hg⟩
theorem setCells_one (w : World) (g o : Nat) (u : Value) : w.setCells g o [u] = w.setCell ⟨g, o, none⟩ u := rfl
theorem Blk.put (hE : ElOk T TL El) {w : World} {g cap q i : Nat} {u : Value} (h : Blk T El w g cap q i) (hu : El w q i u) (hi : i < cap) : Blk T El (w.setCell ⟨g, i, none⟩ u) g cap q (i + 1) := by
  obtain ⟨cur, h1, h2, h3⟩ := h
  have hg := (only_setCells g [u] i w).1
  rw [setCells_one] at hg
  refine ⟨cur.setIfInBounds i u, h1.put i u, by rw [Array.size_setIfInBounds]; exact h2, fun j hj => ?_⟩
  rcases Nat.lt_or_ge j i with hji | hji
  · obtain ⟨u', e1, e2⟩ := h3 j hji
    exact ⟨u', by rw [Array.getElem?_setIfInBounds, if_neg (by omega)]; exact e1, hE.grown e2 h1 (.inl rfl) hg⟩
  · obtain rfl : j = i := by omega
    exact ⟨u, by rw [Array.getElem?_setIfInBounds, if_pos rfl, if_pos (by omega)], hE.grown hu h1 (.inl rfl) hg⟩
theorem Blk.olds {w : World} {g cap q n : Nat} (h : Blk T El w g cap q n) (hn : n ≤ cap) : ∃ olds : List Value, olds.length = n * 1 ∧ (∀ j u, olds[j]? = some u → w.cell? ⟨g, 0 + j, none⟩ = some u) ∧ (∀ i, i < n → ∃ u, olds[i]? = some u ∧ El w q i u) := by
  obtain ⟨cur, h1, h2, h3⟩ := h
  refine ⟨cur.toList.take n, by rw [List.length_take, Array.length_toList]; omega, fun j u hu => ?_, fun i hi => ?_⟩
  · rw [List.getElem?_take] at hu
    by_cases hj : j < n
    · rw [if_pos hj] at hu
      rw [Nat.zero_add]
      refine (h1.cell j).trans ?_
      rw [← hu, Array.getElem?_toList]
    · rw [if_neg hj] at hu; cases hu
  · obtain ⟨u, e1, e2⟩ := h3 i hi
    exact ⟨u, by rw [List.getElem?_take, if_pos hi, Array.getElem?_toList]; exact e1, e2⟩
/-- behind an append that grew -/
theorem Blk.ofOwn {w w' : World} {base q n m : Nat} {v : Value} {olds news : List Value} (hk : Ks El w w') (h : w'.ownsRow base T 1 v (n + m) (olds ++ news)) (hm : 0 < m) (hl : olds.length = n * 1) (ho : ∀ i, i < n → ∃ u, olds[i]? = some u ∧ El w q i u) :
    ∃ g c, v = .slice (some ⟨g, 0, none⟩) (n + m) c ∧ Blk T El w' g c q n ∧ n + m ≤ c ∧ base ≤ g := by
  rcases h.2 with ⟨_, h0⟩ | ⟨g, cap, cur, hv, hb, hh, hnc, hcm, hcs, ht⟩
  · omega
  · refine ⟨g, cap, hv, ⟨cur, hh, by omega, fun i hi => ?_⟩, hnc, hb⟩
    have hx : ∀ j, j < n + m → cur[j]? = (olds ++ news)[j]? := fun j hj => by
      rw [← ht, List.getElem?_take, if_pos (by omega), Array.getElem?_toList]
    obtain ⟨u, e1, e2⟩ := ho i hi
    exact ⟨u, by rw [hx _ (by omega), List.getElem?_append_left (by omega)]; exact e1, hk _ _ _ e2⟩
theorem Blk.ofOwn1 {w w' : World} {base q n : Nat} {v x : Value} {olds : List Value} (hk : Ks El w w') (h : w'.ownsRow base T 1 v (n + 1) (olds ++ [x])) (hl : olds.length = n * 1) (ho : ∀ i, i < n → ∃ u, olds[i]? = some u ∧ El w q i u) (hx0 : El w q n x) :
    ∃ g c, v = .slice (some ⟨g, 0, none⟩) (n + 1) c ∧ Blk T El w' g c q (n + 1) ∧ n + 1 ≤ c ∧ base ≤ g := by
  rcases h.2 with ⟨_, h0⟩ | ⟨g, cap, cur, hv, hb, hh, hnc, hcm, hcs, ht⟩
  · omega
  · refine ⟨g, cap, hv, ⟨cur, hh, by omega, fun i hi => ?_⟩, hnc, hb⟩
    have hx : ∀ j, j < n + 1 → cur[j]? = (olds ++ [x])[j]? := fun j hj => by
      rw [← ht, List.getElem?_take, if_pos (by omega), Array.getElem?_toList]
    rcases Nat.lt_or_ge i n with h1 | h1
    · obtain ⟨u, e1, e2⟩ := ho i h1
      exact ⟨u, by rw [hx _ (by omega), List.getElem?_append_left (by omega)]; exact e1, hk _ _ _ e2⟩
    · obtain rfl : i = n := by omega
      exact ⟨x, by rw [hx _ (by omega), List.getElem?_append_right (by omega), hl, show i - i * 1 = 0 by omega]; rfl, hk _ _ _ hx0⟩

/-- where a list's block is, if it has one -/
abbrev At (AD : Nat → Option Addr) (q g : Nat) : Prop := AD q = some ⟨g, 0, none⟩
theorem At.eq {AD : Nat → Option Addr} {q g g2 : Nat} (h : At AD q g) (h2 : At AD q g2) : g = g2 := by
  unfold At at h h2
  rw [h] at h2
  injection h2 with h2
  injection h2
/-- the lists: their headers -/
def Hdr (w : World) (hd m : Nat) (AH : Nat → Option Addr) (N C : Nat → Nat) : Prop := ∀ q, q < m → w.cell? ⟨hd, q, none⟩ = some (.slice (AH q) (N q) (C q))
def inG (AD : Nat → Option Addr) (m k : Nat) : Prop := ∃ q, q < m ∧ At AD q k
theorem Hdr.tch {w w' : World} {hd m m' : Nat} {AD AH : Nat → Option Addr} {N C : Nat → Nat} (h : Hdr w hd m AH N C) (ht : Tch (inG AD m') w w') (hl : hd < w.heap.size) (hS : ¬ inG AD m' hd) : Hdr w' hd m AH N C := fun q hq =>
  (World.cell?_of_block (a := ⟨hd, q, none⟩) (ht.block hd hl hS)).trans (h q hq)
/-- what a list of lists is to be: each with room has its own block (AD); where a header points (AH) -/
structure Lists (T : TypeId) (El : World → Nat → Nat → Value → Prop) (w : World) (hd m : Nat) (AD AH : Nat → Option Addr) (N C : Nat → Nat) : Prop where
  hdr : Hdr w hd m AH N C
  form : ∀ q, q < m → (AD q = none ∧ N q = 0 ∧ C q = 0) ∨ ∃ g, At AD q g ∧ At AH q g ∧ Blk T El w g (C q) q 0
  ne : ∀ p q g, p < m → q < m → At AD p g → At AD q g → p = q
  apart : ¬ inG AD m hd
  lt : hd < w.heap.size
  few : m ≤ 600000
  small : ∀ q, q < m → N q ≤ C q ∧ N q ≤ 600000
/-- all lists are marked so far -/
def Mrk (T : TypeId) (El : World → Nat → Nat → Value → Prop) (w : World) (m : Nat) (AD : Nat → Option Addr) (N C : Nat → Nat) : Prop := ∀ q, q < m → ∀ g, At AD q g → Blk T El w g (C q) q (N q)
theorem Mrk.keep (hE : ElOk T TL El) {w w' : World} {m : Nat} {AD : Nat → Option Addr} {N C : Nat → Nat} (h : Mrk T El w m AD N C) (hb : Below w.heap.size w w') : Mrk T El w' m AD N C := fun q hq g hg => (h q hq g hg).keep hE hb
/-- one block alone is turned: list j's or a new one -/
theorem Mrk.turn {w w' : World} {m j gg : Nat} {AD : Nat → Option Addr} {N C : Nat → Nat} (h : Mrk T El w m AD N C) (hk : Ks El w w') (hg : w.grownBy w' (some gg)) (hne : ∀ p q g, p < m → q < m → At AD p g → At AD q g → p = q) (hj : j < m) (hat : (At AD j gg ∧ Blk T El w' gg (C j) j (N j)) ∨ ∀ q g, q < m → At AD q g → g ≠ gg) : Mrk T El w' m AD N C := fun q hq g hga => by
  by_cases e : g = gg
  · subst e
    rcases hat with ⟨h1, h2⟩ | h1
    · obtain rfl := hne q j g hq hj hga h1
      exact h2
    · exact absurd rfl (h1 q g hq hga)
  · exact (h q hq g hga).same hk (hg.block g (h q hq g hga).lt (fun e' => e (by injection e')))
theorem grown_none {w w' : World} (h : w.grownBy w' none) : Below w.heap.size w w' := Below.grown (Below.refl _ _) h (Nat.le_refl _) (by simp)
/-- a list that grows -/
def GRow (T : TypeId) (El : World → Nat → Nat → Value → Prop) (w : World) (AD : Nat → Option Addr) (lo hi q n : Nat) (v : Value) : Prop := ∃ ao c, v = .slice ao n c ∧ n ≤ c ∧ ((n = 0 ∧ c = 0) ∨ ∃ g, ao = some ⟨g, 0, none⟩ ∧ Blk T El w g c q n ∧ (At AD q g ∨ lo ≤ g) ∧ g < hi)
theorem GRow.olds {w : World} {AD : Nat → Option Addr} {lo hi q n c : Nat} {ao : Option Addr} (hn : n ≤ c) (h : (n = 0 ∧ c = 0) ∨ ∃ g, ao = some ⟨g, 0, none⟩ ∧ Blk T El w g c q n ∧ (At AD q g ∨ lo ≤ g) ∧ g < hi) :
    ∃ olds : List Value, olds.length = n * 1 ∧ (ao = none → n = 0 ∧ c = 0) ∧ (∀ b, ao = some b → ∀ j u, olds[j]? = some u → w.cell? (b.add j) = some u) ∧ (∀ i, i < n → ∃ u, olds[i]? = some u ∧ El w q i u) := by
  rcases h with ⟨h2, h3⟩ | ⟨g, h1, h2, _⟩
  · subst h2
    exact ⟨[], rfl, fun _ => ⟨rfl, h3⟩, (fun b hb j u hu => by simp at hu), fun i hi => absurd hi (by omega)⟩
  · obtain ⟨olds, o1, o2, o3⟩ := h2.olds hn
    refine ⟨olds, o1, (fun e => by rw [h1] at e; cases e), fun b hb j u hu => ?_, o3⟩
    rw [h1] at hb
    injection hb with hb
    subst hb
    rw [add_zero_off]
    have := o2 j u hu
    rwa [Nat.zero_add] at this
/-- between two rounds: the grown lists so far (their first N q + ext marked), the lists as they were marked -/
def Inv (T TL : TypeId) (El : World → Nat → Nat → Value → Prop) (k : Nat) (AD : Nat → Option Addr) (N C : Nat → Nat) (w : World) (top gsb : Nat) (cs : Array Value) (j ext : Nat) (wi : World) : Prop :=
  Arr wi gsb TL cs ∧ (∀ q, q < j → ∃ g c, cs[q]? = some (.slice (some ⟨g, 0, none⟩) (N q + 64) c) ∧ Blk T El wi g c q (N q + ext) ∧ (At AD q g ∨ gsb + 1 ≤ g) ∧ g < top) ∧ Mrk T El wi k AD N C ∧ Tch (inG AD k) w wi ∧ top ≤ wi.heap.size
theorem Inv.below (hE : ElOk T TL El) {k : Nat} {AD : Nat → Option Addr} {N C : Nat → Nat} {w : World} {top gsb : Nat} {cs : Array Value} {j ext : Nat} {wi w' : World} (h : Inv T TL El k AD N C w top gsb cs j ext wi) (hb : Below wi.heap.size wi w') : Inv T TL El k AD N C w top gsb cs j ext w' := by
  obtain ⟨a, b, c, d, e⟩ := h
  refine ⟨a.keep hb, fun q hq => ?_, c.keep hE hb, d.below hb, Nat.le_trans e hb.size⟩
  obtain ⟨g, cc, h1, h2, h3⟩ := b q hq
  exact ⟨g, cc, h1, h2.keep hE hb, h3⟩
theorem Inv.turn {k : Nat} {AD : Nat → Option Addr} {N C : Nat → Nat} {w : World} {top gsb : Nat} {cs : Array Value} {j ext gg : Nat} {wi w' : World} (h : Inv T TL El k AD N C w top gsb cs j ext wi) (hk : Ks El wi w') (hg : wi.grownBy w' (some gg)) (hG : ∀ q g, q < k → At AD q g → g < gsb) (hne : ∀ p q g, p < k → q < k → At AD p g → At AD q g → p = q) (hj : j < k) (hgt : gsb < top) (hw : w.heap.size ≤ top) (hat : (At AD j gg ∧ Blk T El w' gg (C j) j (N j)) ∨ top ≤ gg) : Inv T TL El k AD N C w top gsb cs j ext w' := by
  obtain ⟨a, b, c, d, e⟩ := h
  have hoth : ∀ g, g < wi.heap.size → g ≠ gg → w'.heap[g]? = wi.heap[g]? := fun g h1 h2 => hg.block g h1 (fun e => h2 (by injection e))
  have hgsb : gsb ≠ gg := by
    rcases hat with ⟨h1, _⟩ | hat
    · have := hG j gg hj h1; omega
    · omega
  refine ⟨(hoth gsb a.lt hgsb).trans a, fun q hq => ?_, c.turn hk hg hne hj ?_, d.grown hg (fun x hx => ?_), Nat.le_trans e hg.size⟩
  · obtain ⟨g, cc, h1, h2, h3, h4⟩ := b q hq
    refine ⟨g, cc, h1, h2.same hk (hoth g h2.lt ?_), h3, h4⟩
    rcases hat with ⟨h5, _⟩ | hat
    · rcases h3 with h3 | h3
      · intro e2
        subst e2
        have := hne q j g (by omega) hj h3 h5
        omega
      · have := hG j gg hj h5; omega
    · omega
  · rcases hat with hat | hat
    · exact .inl hat
    · exact .inr (fun q g hq hqa => by have := hG q g hq hqa; omega)
  · injection hx with hx
    subst hx
    rcases hat with ⟨h5, _⟩ | hat
    · exact .inl ⟨j, hj, h5⟩
    · exact .inr (by omega)
theorem Inv.next (hE : ElOk T TL El) {k : Nat} {AD : Nat → Option Addr} {N C : Nat → Nat} {w : World} {top gsb : Nat} {cs : Array Value} {j ext g c : Nat} {wi : World} (h : Inv T TL El k AD N C w top gsb cs j ext wi) (hb : Blk T El wi g c j (N j + ext)) (hat : At AD j g ∨ top ≤ g) (hj : j < k) (hsz : cs.size = k) (hG : ∀ q g, q < k → At AD q g → g < gsb) (hgt : gsb < top) (hw : w.heap.size ≤ gsb) :
    Inv T TL El k AD N C w (wi.setCell ⟨gsb, j, none⟩ (.slice (some ⟨g, 0, none⟩) (N j + 64) c)).heap.size gsb (cs.setIfInBounds j (.slice (some ⟨g, 0, none⟩) (N j + 64) c)) (j + 1) ext (wi.setCell ⟨gsb, j, none⟩ (.slice (some ⟨g, 0, none⟩) (N j + 64) c)) := by
  obtain ⟨a, b, d, e, f⟩ := h
  have hs : (wi.setCell ⟨gsb, j, none⟩ (.slice (some ⟨g, 0, none⟩) (N j + 64) c)).heap.size = wi.heap.size := World.size_setCell _ _ _
  have hk : Ks El wi (wi.setCell ⟨gsb, j, none⟩ (.slice (some ⟨g, 0, none⟩) (N j + 64) c)) := hE.at a (.inr rfl) (by rw [← setCells_one]; exact (only_setCells gsb _ j wi).1)
  refine ⟨a.put j _, fun q hq => ?_, fun q hq g2 hg2 => (d q hq g2 hg2).same hk (Below.heap_setCell _ _ _ _ (by have := hG q g2 hq hg2; simp only; omega)), e.put (.inr hw) _, Nat.le_refl _⟩
  rcases Nat.lt_or_ge q j with h1 | h1
  · obtain ⟨g2, c2, h2, h3, h4, h5⟩ := b q h1
    refine ⟨g2, c2, by rw [Array.getElem?_setIfInBounds, if_neg (by omega)]; exact h2, h3.same hk (Below.heap_setCell _ _ _ _ ?_), h4, by omega⟩
    simp only
    rcases h4 with h4 | h4
    · have := hG q g2 (by omega) h4; omega
    · omega
  · obtain rfl : q = j := by omega
    refine ⟨g, c, by rw [Array.getElem?_setIfInBounds, if_pos rfl, if_pos (by omega)], hb.same hk (Below.heap_setCell _ _ _ _ ?_), ?_, by have := hb.lt; omega⟩
    · simp only
      rcases hat with h4 | h4
      · have := hG q g hj h4; omega
      · omega
    · rcases hat with h4 | h4
      · exact .inl h4
      · exact .inr (by omega)
theorem Inv.row {k : Nat} {AD : Nat → Option Addr} {N C : Nat → Nat} {w : World} {top gsb : Nat} {cs : Array Value} {j ext q : Nat} {wi : World} {g c : Nat} (h : Inv T TL El k AD N C w top gsb cs j ext wi) (hq : q < j) (hv : cs[q]? = some (.slice (some ⟨g, 0, none⟩) (N q + 64) c)) : Blk T El wi g c q (N q + ext) := by
  obtain ⟨g', c', h1, h3, _⟩ := h.2.1 q hq
  rw [hv] at h1
  injection h1 with h1
  injection h1 with e1 _ e2
  injection e1 with e1
  injection e1 with e1
  subst e1 e2
  exact h3
/-- the block of 64 that is appended -/
def Many (T : TypeId) (w : World) (mb : Nat) : Prop := ∃ cur, Arr w mb T cur ∧ cur.size = 64 ∧ ∀ (i : Nat) (u : Value), cur[i]? = some u → u.oneCell' = true
theorem Many.lt {w : World} {mb : Nat} (h : Many T w mb) : mb < w.heap.size := by obtain ⟨cur, h1, _⟩ := h; exact h1.lt
theorem Many.keep {w w' : World} {mb : Nat} (h : Many T w mb) (hb : Below w.heap.size w w') : Many T w' mb := by
  obtain ⟨cur, h1, h2⟩ := h
  exact ⟨cur, h1.keep hb, h2⟩
theorem Many.there {w : World} {mb : Nat} (h : Many T w mb) {j : Nat} (hj : j < 64) : (∃ u, w.cell? ⟨mb, j, none⟩ = some u) ∧ w.frozen? ⟨mb, j, none⟩ = false := by
  obtain ⟨cur, h1, h2, h3⟩ := h
  exact ⟨⟨cur[j]'(by omega), (h1.cell j).trans (Array.getElem?_eq_getElem (show j < cur.size by omega))⟩, h1.mark j⟩
theorem Many.put {w : World} {mb : Nat} (h : Many T w mb) (i : Nat) (u : Value) (hu : u.oneCell' = true) : Many T (w.setCell ⟨mb, i, none⟩ u) mb := by
  obtain ⟨cur, h1, h2, h3⟩ := h
  refine ⟨cur.setIfInBounds i u, h1.put i u, by rw [Array.size_setIfInBounds]; exact h2, fun j u' hj => ?_⟩
  rw [Array.getElem?_setIfInBounds] at hj
  split at hj
  · split at hj
    · injection hj with hj; rw [← hj]; exact hu
    · cases hj
  · exact h3 j u' hj
theorem Many.list {w : World} {mb : Nat} (h : Many T w mb) : ∃ news : List Value, news.length = 64 * 1 ∧ (∀ j u, news[j]? = some u → w.cell? ((⟨mb, 0, none⟩ : Addr).add j) = some u) ∧ ∀ u ∈ news, u.oneCell' = true := by
  obtain ⟨cur, h1, h2, h3⟩ := h
  refine ⟨cur.toList, by rw [Array.length_toList, h2], fun j u hu => ?_, fun u hu => ?_⟩
  · rw [add_zero_off]
    refine (h1.cell j).trans ?_
    rw [← Array.getElem?_toList]; exact hu
  · obtain ⟨i, hi⟩ := List.getElem?_of_mem hu
    rw [Array.getElem?_toList] at hi
    exact h3 i u hi
theorem many_made {w : World} {base mb : Nat} {z : Value} (hz : z.oneCell' = true) (h : w.ownsRow base T 1 (.slice (some ⟨mb, 0, none⟩) 64 64) 64 (madeCells #[z] (64 * 1)).toList) : Many T w mb := by
  rcases h.2 with ⟨h0, _⟩ | ⟨g', cap, cur, hv, hb, hh, hnc, hcm, hcs, ht⟩
  · cases h0
  · injection hv with e1 _ e2
    injection e1 with e1
    injection e1 with e1
    subst e1 e2
    refine ⟨cur, hh, by omega, fun i u hu => ?_⟩
    have h5 : cur.toList = (madeCells #[z] (64 * 1)).toList := by rw [← ht, List.take_of_length_le (by rw [Array.length_toList]; omega)]
    have h6 : cur = madeCells #[z] (64 * 1) := Array.toList_inj.1 h5
    rw [h6] at hu
    obtain ⟨hi, hu2⟩ := Array.getElem?_eq_some_iff.1 hu
    rw [← hu2]
    have h7 : (madeCells #[z] (64 * 1)) = Array.replicate 64 z := by
      apply Array.ext
      · simp [madeCells]
      · intro j h1 h2
        simp [madeCells, Nat.mod_one]
    simp only [h7, Array.getElem_replicate]
    exact hz
theorem own_arr {w : World} {base n g : Nat} {e : TypeId} {xs : List Value} (h : w.ownsRow base e 1 (.slice (some ⟨g, 0, none⟩) n n) n xs) : ∃ cs, Arr w g e cs ∧ cs.size = n := by
  rcases h.2 with ⟨h0, _⟩ | ⟨g', cap, cur, hv, hb, hh, hnc, hcm, hcs, ht⟩
  · cases h0
  · injection hv with e1 _ e2
    injection e1 with e1
    injection e1 with e1
    subst e1 e2
    exact ⟨cur, hh, by rw [hcs]; omega⟩
theorem Lists.keep (hE : ElOk T TL El) {w w' : World} {hd m : Nat} {AD AH : Nat → Option Addr} {N C : Nat → Nat} (h : Lists T El w hd m AD AH N C) (hb : Below w.heap.size w w') : Lists T El w' hd m AD AH N C where
  hdr q hq := (hb.cell (p := ⟨hd, q, none⟩) h.lt).trans (h.hdr q hq)
  form q hq := by
    rcases h.form q hq with h1 | ⟨g, h1, h2, h3⟩
    · exact .inl h1
    · exact .inr ⟨g, h1, h2, h3.keep hE hb⟩
  ne := h.ne
  apart := h.apart
  lt := Nat.lt_of_lt_of_le h.lt hb.size
  few := h.few
  small := h.small
end
theorem cell_lift {w w' : World} {g i : Nat} {v : Value} (h : w.cell? ⟨g, i, none⟩ = some v) (hb : Below w.heap.size w w') : w'.cell? ⟨g, i, none⟩ = some v :=
  (hb.cell (p := ⟨g, i, none⟩) (block_lt_of_cell h)).trans h
def lv (N : Nat → Nat) (k q : Nat) : Nat := if q < k then N q else 0
theorem lv_lt {N : Nat → Nat} {k q : Nat} (h : q < k) : lv N k q = N q := by rw [lv, if_pos h]
theorem lv_ge {N : Nat → Nat} {k q : Nat} (h : k ≤ q) : lv N k q = 0 := by rw [lv, if_neg (by omega)]

end Go.Proofs.YtkmpchffflemcaaGreatDoor.Fl
end

/- markByte; marks of bytes. -/
section
set_option linter.unusedVariables false
set_option linter.unusedSimpArgs false
namespace Go.Proofs.YtkmpchffflemcaaGreatDoor.Fl
open Go.RowKit
open Go.Proofs.YtkmpchffflemcaaGreatDoor.Oc (u8_info)

theorem rows_info : (Tryz.prog.info? 22).map (fun i => (i.zero, i.size, i.bytes)) = some (some (.slice none 0 0), 1, 24) := by kernel_rfl
def mkI (x y : Int) : Int := wrap64 (wrap64 (1000003 * wrap64 (x + 7)) + y)
set_option maxRecDepth 100000 in
set_option maxHeartbeats 4000000 in
theorem mark_in (x y : Int) (w : World) : Calls Tryz.prog 23 #[.int .i64 x, .int .i64 y] w fun e w' => e = .returned (.int .i64 (mkI x y)) ∧ w' = w := by
  go_enter Tryz.func23, Tryz.ntmps23
  go_wp2_with fail
  go_ret
  exact ⟨rfl, rfl⟩
def mkB (x y : Int) : Int := IntKind.u64.wrap (IntKind.u64.wrap (mkI x y) * 11400714819323198485) / 72057594037927936 % 256
set_option maxRecDepth 100000 in
set_option maxHeartbeats 4000000 in
theorem MarkByte0 (x y : Int) (w : World) : Calls Tryz.prog 11 #[.int .i64 x, .int .i64 y] w fun e w' => e = .returned (.int .u8 (mkB x y)) ∧ Below w.heap.size w w' := by
  go_enter Tryz.func11, Tryz.ntmps11
  go_wp2_with fail
  refine (mark_in x y w).mono ?_
  rintro e w1 ⟨rfl, hw⟩
  rw [hw]
  obtain ⟨z, hz⟩ : ∃ z, mkI x y = z := ⟨_, rfl⟩
  rw [hz]
  have HZ := Lib.hid hz
  clear hw w1 hz
  go_wp2_with fail
  go_ret
  exact ⟨by rw [← HZ.out]; rfl, Below.refl _ _⟩
def mkV (q i : Nat) : Int := mkB q i
theorem MarkByte (q i : Nat) (w : World) : Calls Tryz.prog 11 #[.int .i64 q, .int .i64 i] w fun e w' => e = .returned (.int .u8 (mkV q i)) ∧ Below w.heap.size w w' := MarkByte0 q i w
theorem MarkByteE (q i : Nat) (x y : Int) (hx : x = (q : Int)) (hy : y = (i : Int)) (w : World) :
    Calls Tryz.prog 11 #[.int .i64 x, .int .i64 y] w fun e w' => e = .returned (.int .u8 (mkV q i)) ∧ Below w.heap.size w w' := by
  subst hx hy
  exact MarkByte q i w
def ElB (_ : World) (q i : Nat) (u : Value) : Prop := u = .int .u8 (mkV q i)
theorem elB_ok : ElOk 5 22 ElB := ⟨fun h => by rw [h]; rfl, fun h _ => h, fun h _ _ _ => h⟩
theorem ksB (w w' : World) : Ks ElB w w' := fun _ _ _ h => h
theorem mk_one (x : Int) : ∀ u ∈ [Value.int .u8 x], u.oneCell' = true := by
  intro u hu
  rw [List.mem_singleton.1 hu]; rfl

end Go.Proofs.YtkmpchffflemcaaGreatDoor.Fl
end

/- The statements' kit: bytes that are lent, whether they are kept; the same bytes, the same rows. -/
section
set_option linter.unusedVariables false
set_option linter.unusedSimpArgs false
namespace Go.Proofs.YtkmpchffflemcaaGreatDoor.Fl
open Go.RowKit
open Go.Proofs.YtkmpchffflemcaaGreatDoor.Oc (u8_info Bs Buf wp_buf bytesV byteV bytesV_len okA)
open Go.Proofs.YtkmpchffflemcaaGreatDoor.En (By)

theorem mkV_range (q i : Nat) : 0 ≤ mkV q i ∧ mkV q i < 256 := by
  unfold mkV mkB
  exact ⟨Int.emod_nonneg _ (by decide), Int.emod_lt_of_pos _ (by decide)⟩
def mkU (q i : Nat) : UInt8 := UInt8.ofNat (mkV q i).toNat
theorem mkU_val (q i : Nat) : byteV (mkU q i) = .int .u8 (mkV q i) := by
  have h := mkV_range q i
  unfold byteV mkU
  have : (UInt8.ofNat (mkV q i).toNat).toNat = (mkV q i).toNat := by
    rw [UInt8.toNat_ofNat']; omega
  rw [this]
  congr 1
  omega
/-- the marks behind what is lent -/
def mks (n : Nat) : By := (List.range n).map (mkU 1)
theorem mks_len (n : Nat) : (mks n).length = n := by simp [mks]
theorem mks_succ (n : Nat) : mks (n + 1) = mks n ++ [mkU 1 n] := by simp [mks, List.range_succ]
theorem own_buf {w : World} {base n c : Nat} {A : Option Addr} {bs : By} (h : w.ownsRow base 5 1 (.slice A n c) n (bytesV bs)) (hn : bs.length = n) : Buf w A c bs (fun k => base ≤ k) := by
  rcases h.2 with ⟨h0, h1⟩ | ⟨g', cap', cur, hv, hb, hh, h1, h2, h3, h4⟩
  · injection h0 with e1 e2 e3
    subst e1 e3
    exact ⟨.inl ⟨rfl, rfl, List.eq_nil_of_length_eq_zero (by omega)⟩⟩
  · injection hv with e1 _ e2
    subst e1 e2
    refine ⟨.inr ⟨g', 0, cur, rfl, hh, by omega, by omega, fun j u hj => ?_, hb⟩⟩
    have hj2 := (List.getElem?_eq_some_iff.1 hj).1
    rw [bytesV_len] at hj2
    rw [Nat.zero_add, ← hj, ← h4, List.getElem?_take, if_pos (by omega), Array.getElem?_toList]
set_option maxRecDepth 100000 in
/-- the head of a row of bytes -/
theorem cut_head {A : Option Addr} (hA : okA A) {n c k : Nat} (hk : k ≤ c) (W : World) : (Instr.slice 22 (.slice A n c) none (some (.int .i64 (k : Int))) none).run Tryz.prog W = .ok (.slice A k c) W := by
  obtain ⟨i0, hi, hz0, hz1, hz2⟩ := info_parts u8_info
  have hz : (sizeOf 5).run Tryz.prog W = .ok i0.size W := by simp [sizeOf, typeInfo, hi]
  have h9 := run_slice_h (P := Tryz.prog) W 22 A n c Tryz.underlying22 .i64 (k : Int) (by omega) (by omega)
  refine h9.trans ?_
  refine (congrArg (fun q => Result.andThen q fun s w => Result.ok (sliced A 0 (k : Int).toNat c s) w) hz).trans ?_
  have hA0 : A.map (·.add (0 * i0.size)) = A := by
    cases A with
    | none => rfl
    | some ad =>
      obtain ⟨g, off, rfl⟩ := hA ad rfl
      simp [Addr.add_lit]
  simp only [Result.andThen, sliced, Int.toNat_natCast, Nat.sub_zero, hA0, ite_self]
def LbOut (l : By) (w : World) (e : Ending) (w' : World) : Prop := ∃ A c, e = .returned (.slice A l.length c) ∧ Buf w' A c (l ++ mks 12) (fun k => w.heap.size ≤ k) ∧ Below w.heap.size w w'
set_option maxRecDepth 100000 in
set_option maxHeartbeats 8000000 in
theorem LentB_in (l : By) (A : Option Addr) (c : Nat) (w : World) (hB : Bs w A l) (hl : l.length ≤ 100000000) : Calls Tryz.prog 4 #[.slice A l.length c] w (LbOut l w) := by
  obtain ⟨i0, hi, hz0, hz1, hz2⟩ := info_parts u8_info
  have HB := Lib.hid hB; have HL := Lib.hid hl
  clear hB hl
  go_enter Tryz.func4, Tryz.ntmps4
  go_upto_region 2 with (refine wpList_make_own _ rfl _ _ 22 rfl w.heap.size 5 i0 (.int .u8 0) 1 Tryz.underlying22 hi hz0 hz1 .i64 .i64 _ (l.length + 12) rfl rfl (by have := HL.out; unfold wrap64; omega) (by have := HL.out; rw [hz2]; omega) (by have := HL.out; unfold maxLen; omega) (Nat.le_refl _) ?_; intro w1 hown0 hg0; have HO0 := Lib.hid (own_buf (bs := []) hown0 rfl); have HG0 := Lib.hid (Below.grown (Below.refl w.heap.size w) hg0 (Nat.le_refl _) (by simp)); clear hown0 hg0)
  have HB1 := Lib.hid (HB.out.keep HG0.out)
  go_upto_region 3 with (at_builtin; refine wp_buf _ rfl (.tmp 9) (.tmp 10) rfl HO0.out rfl rfl rfl rfl HB1.out (by have := HL.out; simp; omega) ?_; intro A2 c2 w2 hb2 ht2; have HB2 := Lib.hid hb2; have HT2 := Lib.hid (Tch.fresh ht2 HG0.out (fun j hj => hj)); clear hb2 ht2)
  have hB2 : Buf w2 A2 c2 (l ++ mks 0) (fun k => w.heap.size ≤ k) := by
    have := HB2.out.mono (T := fun k => w.heap.size ≤ k) fun g hg => hg.elim id fun h => by have := HG0.out.size; omega
    simpa [mks] using this
  have HB3 := Lib.hid hB2
  clear hB2
  go_upto_region 4 with fail
  go_loopw [3, 4] (fun v i wr => ∃ (j : Nat) (A3 : Option Addr) (c3 : Nat), j ≤ 12 ∧ i = .int .i64 j ∧ v = .slice A3 (l.length + j) c3 ∧ Buf wr A3 c3 (l ++ mks j) (fun k => w.heap.size ≤ k) ∧ Below w.heap.size w wr) (fun _ i _ => (12 - intOf i).toNat)
  case atStart => exact ⟨0, A2, c2, by omega, rfl, by simp, HB3.out, HT2.out⟩
  case round =>
    obtain ⟨j, A3, c3, hj, rfl, rfl, hb, hbl⟩ := hrel
    have HBJ := Lib.hid hb; have HBL := Lib.hid hbl
    clear hb hbl
    by_cases h12 : j < 12
    · have hj1 : (j : Int) < 12 := by omega
      go_wp2_with fail
      refine (MarkByteE 1 j _ _ rfl rfl _).mono ?_
      rintro e w4 ⟨rfl, hb4⟩
      have hb5 := ext_alloc hb4 (.cells #[.int .u8 (mkV 1 j)] 5)
      have HK5 := Lib.hid (HBJ.out.same (w' := w4.alloc (.cells #[.int .u8 (mkV 1 j)] 5)) fun g _ hg => hb5.block g hg)
      have HM5 := Lib.hid (show Bs (w4.alloc (.cells #[.int .u8 (mkV 1 j)] 5)) (some ⟨w4.heap.size, 0, none⟩) [mkU 1 j] from fun _ => ⟨w4.heap.size, 0, rfl, by simp, fun i u hu => by
        rw [Nat.zero_add, (Arr.fresh w4 5 #[.int .u8 (mkV 1 j)]).cell i]
        simp only [bytesV, List.map_cons, List.map_nil, mkU_val] at hu
        simpa using hu⟩)
      have HL5 := Lib.hid (ext_trans HBL.out hb5)
      clear hb4 hb5
      go_wp2_with (at_builtin; refine wp_buf _ rfl (.tmp 16) (.tmp 19) rfl HK5.out rfl (by simp [mks_len]) rfl rfl HM5.out (by have := HL.out; simp [mks_len]; omega) ?_; intro A6 c6 w6 hb6 ht6; have HB6 := Lib.hid hb6; have HT6 := Lib.hid ht6; clear hb6 ht6)
      go_roundw
      case rel =>
        refine ⟨j + 1, A6, c6, by omega, by go_num, by (first | (simp [mks_len]; done) | (simp [mks_len]; omega)), ?_, Tch.fresh HT6.out HL5.out (fun k hk => hk)⟩
        rw [mks_succ, ← List.append_assoc]
        exact HB6.out.mono fun g hg => hg.elim id fun h => Nat.le_trans HL5.out.size h
      case measure => simp [intOf]; omega
    · obtain rfl : j = 12 := by omega
      have hsl : ∀ W : World, (Instr.slice 22 (.slice A3 (l.length + 12) c3) none (some (.int .i64 (l.length : Int))) none).run Tryz.prog W = .ok (.slice A3 l.length c3) W := cut_head HBJ.out.okA (by have := HBJ.out.len; simp [mks_len] at this; omega)
      have HF := Lib.hid (show LbOut l w (.returned (.slice A3 l.length c3)) wr from ⟨A3, c3, rfl, HBJ.out, HBL.out⟩)
      go_wp2_with fail
      go_ret
      exact HF.out
set_option maxRecDepth 100000 in
set_option maxHeartbeats 8000000 in
theorem SameB_in (x : By) (A B : Option Addr) (c d : Nat) (w : World) (hA : Bs w A x) (hB : Bs w B x) (hl : x.length ≤ 100000000) : Calls Tryz.prog 16 #[.slice A x.length c, .slice B x.length d] w fun e w' => e = .returned (.bool true) ∧ Below w.heap.size w w' := by
  have HA := Lib.hid hA; have HB := Lib.hid hB
  clear hA hB
  go_enter Tryz.func16, Tryz.ntmps16
  go_wp2_with fail
  go_loopw [5] (fun i wr => ∃ j : Nat, j ≤ x.length ∧ i = .int .i64 j ∧ Below w.heap.size w wr) (fun i _ => (x.length - intOf i).toNat)
  case atStart => exact ⟨0, by omega, rfl, Below.refl _ _⟩
  case round =>
    obtain ⟨j, hj, rfl, hb⟩ := hrel
    have HBL := Lib.hid hb
    by_cases h : j < x.length
    · have hj1 : (j : Int) < (x.length : Int) := by omega
      have hj0 : (0 : Int) ≤ (j : Int) := by omega
      have hne : x ≠ [] := fun e => by rw [e] at h; simp at h
      obtain ⟨g, off, rfl, hg, hc⟩ := (HA.out.keep hb) hne
      obtain ⟨g2, off2, rfl, hg2, hc2⟩ := (HB.out.keep hb) hne
      obtain ⟨y, hy⟩ : ∃ y, (bytesV x)[j]? = some (.int .u8 y) := ⟨_, Oc.bytesV_get h⟩
      have y1 : wr.cell? ⟨g, off + j, none⟩ = some (.int .u8 y) := hc j _ hy
      have y2 : wr.cell? ⟨g2, off2 + j, none⟩ = some (.int .u8 y) := hc2 j _ hy
      have hyy : (y != y) = false := by simp
      clear hc hc2 hy hb hne
      go_wp2_with fail
      refine wp_region_held_drew (S := (fun w' => w'.cell? ⟨g, off + j, none⟩ = some (.int .u8 y) ∧ w'.cell? ⟨g2, off2 + j, none⟩ = some (.int .u8 y))) (by kernel_rfl) (by exact ⟨y1, y2⟩) (fun hHeld => ?_)
      refine take_yes (i := 0) (oi := ?o1) (d := (some 17)) (v := ?v1) ?hi1 (by kernel_rfl) (by kernel_rfl) (by kernel_rfl) (fun _ _ _ h => h) ?hd1 ?hw1 ?hy1 (by assumption) ?_
      case hi1 => (simp only [List.getElem?_toArray, List.getElem?_cons_zero]; exact rfl)
      case hd1 => rfl
      case hw1 => rfl
      case hy1 => (intro w hSw; (try dsimp only at hSw); go_simp; try with_reducible rfl)
      try simp only [Act.put, List.setIfInBounds_toArray, List.set_cons_zero, List.set_cons_succ]
      refine take_yes (i := 1) (oi := ?o2) (d := (some 18)) (v := ?v2) ?hi2 (by kernel_rfl) (by kernel_rfl) (by kernel_rfl) (fun _ _ _ h => h) ?hd2 ?hw2 ?hy2 (by assumption) ?_
      case hi2 => (simp only [List.getElem?_toArray, List.getElem?_cons_zero, List.getElem?_cons_succ]; exact rfl)
      case hd2 => rfl
      case hw2 => rfl
      case hy2 => (intro w hSw; (try dsimp only at hSw); go_simp; try with_reducible rfl)
      try simp only [Act.put, List.setIfInBounds_toArray, List.set_cons_zero, List.set_cons_succ]
      refine take_yes (i := 2) (oi := ?o3) (d := (some 19)) (v := ?v3) ?hi3 (by kernel_rfl) (by kernel_rfl) (by kernel_rfl) (fun _ _ _ h => h) ?hd3 ?hw3 ?hy3 (by assumption) ?_
      case hi3 => (simp only [List.getElem?_toArray, List.getElem?_cons_zero, List.getElem?_cons_succ]; exact rfl)
      case hd3 => rfl
      case hw3 => rfl
      case hy3 => (intro w hSw; (try dsimp only at hSw); go_simp; try with_reducible rfl)
      try simp only [Act.put, List.setIfInBounds_toArray, List.set_cons_zero, List.set_cons_succ]
      refine take_yes (i := 3) (oi := ?o4) (d := (some 20)) (v := ?v4) ?hi4 (by kernel_rfl) (by kernel_rfl) (by kernel_rfl) (fun _ _ _ h => h) ?hd4 ?hw4 ?hy4 (by assumption) ?_
      case hi4 => (simp only [List.getElem?_toArray, List.getElem?_cons_zero, List.getElem?_cons_succ]; exact rfl)
      case hd4 => rfl
      case hw4 => rfl
      case hy4 => (intro w hSw; (try dsimp only at hSw); go_simp; try with_reducible rfl)
      try simp only [Act.put, List.setIfInBounds_toArray, List.set_cons_zero, List.set_cons_succ]
      refine take_yes (i := 4) (oi := ?o5) (d := (some 21)) (v := ?v5) ?hi5 (by kernel_rfl) (by kernel_rfl) (by kernel_rfl) (fun _ _ _ h => h) ?hd5 ?hw5 ?hy5 (by assumption) ?_
      case hi5 => (simp only [List.getElem?_toArray, List.getElem?_cons_zero, List.getElem?_cons_succ]; exact rfl)
      case hd5 => rfl
      case hw5 => rfl
      case hy5 => (intro w hSw; (try dsimp only at hSw); go_simp; try with_reducible rfl)
      try simp only [Act.put, List.setIfInBounds_toArray, List.set_cons_zero, List.set_cons_succ]
      refine take_yes (i := 5) (oi := ?o6) (d := (some 22)) (v := ?v6) ?hi6 (by kernel_rfl) (by kernel_rfl) (by kernel_rfl) (fun _ _ _ h => h) ?hd6 ?hw6 ?hy6 (by assumption) ?_
      case hi6 => (simp only [List.getElem?_toArray, List.getElem?_cons_zero, List.getElem?_cons_succ]; exact rfl)
      case hd6 => rfl
      case hw6 => rfl
      case hy6 => (intro w hSw; (try dsimp only at hSw); go_simp; try with_reducible rfl)
      try simp only [Act.put, List.setIfInBounds_toArray, List.set_cons_zero, List.set_cons_succ]
      refine take_yes (i := 6) (oi := ?o7) (d := (some 23)) (v := ?v7) ?hi7 (by kernel_rfl) (by kernel_rfl) (by kernel_rfl) (fun _ _ _ h => h) ?hd7 ?hw7 ?hy7 (by assumption) ?_
      case hi7 => (simp only [List.getElem?_toArray, List.getElem?_cons_zero, List.getElem?_cons_succ]; exact rfl)
      case hd7 => rfl
      case hw7 => rfl
      case hy7 => (intro w hSw; (try dsimp only at hSw); go_simp; try with_reducible rfl)
      try simp only [Act.put, List.setIfInBounds_toArray, List.set_cons_zero, List.set_cons_succ]
      refine take_yes (i := 7) (oi := ?o8) (d := (some 24)) (v := ?v8) ?hi8 (by kernel_rfl) (by kernel_rfl) (by kernel_rfl) (fun _ _ _ h => h) ?hd8 ?hw8 ?hy8 (by assumption) ?_
      case hi8 => (simp only [List.getElem?_toArray, List.getElem?_cons_zero, List.getElem?_cons_succ]; exact rfl)
      case hd8 => rfl
      case hw8 => rfl
      case hy8 => (intro w hSw; (try dsimp only at hSw); go_simp; try with_reducible rfl)
      try simp only [Act.put, List.setIfInBounds_toArray, List.set_cons_zero, List.set_cons_succ]
      refine take_yes (i := 8) (oi := ?o9) (d := (some 25)) (v := ?v9) ?hi9 (by kernel_rfl) (by kernel_rfl) (by kernel_rfl) (fun _ _ _ h => h) ?hd9 ?hw9 ?hy9 (by assumption) ?_
      case hi9 => (simp only [List.getElem?_toArray, List.getElem?_cons_zero, List.getElem?_cons_succ]; exact rfl)
      case hd9 => rfl
      case hw9 => rfl
      case hy9 => (intro w hSw; (try dsimp only at hSw); go_simp; try with_reducible rfl)
      try simp only [Act.put, List.setIfInBounds_toArray, List.set_cons_zero, List.set_cons_succ]
      refine wpAnyH_done (by kernel_rfl) ?_ _
      go_wp2_with fail
      go_roundw
      case rel => exact ⟨j + 1, by omega, by go_num, ext_drew HBL.out⟩
      case measure => simp [intOf]; omega
    · obtain rfl : j = x.length := by omega
      clear hb
      go_wp2_with fail
      go_ret
      exact ⟨rfl, HBL.out⟩

end Go.Proofs.YtkmpchffflemcaaGreatDoor.Fl
end

/- The statements' kit: are lent bytes kept? the same rows. -/
section
set_option linter.unusedVariables false
set_option linter.unusedSimpArgs false
namespace Go.Proofs.YtkmpchffflemcaaGreatDoor.Fl
open Go.RowKit
open Go.Proofs.YtkmpchffflemcaaGreatDoor.Oc (u8_info Bs Buf wp_buf bytesV byteV bytesV_len okA CapAt)
open Go.Proofs.YtkmpchffflemcaaGreatDoor.En (By RowsAt)

/-- rows that can be read -/
def Rws (w : World) (v : Value) (L : List By) : Prop := ∃ A c, v = .slice A L.length c ∧ (L ≠ [] → ∃ g, A = some ⟨g, 0, none⟩ ∧ g < w.heap.size ∧ ∀ i, i < L.length → ∃ Ai ci, w.cell? ⟨g, i, none⟩ = some (.slice Ai (L.getD i []).length ci) ∧ Bs w Ai (L.getD i []))
theorem Rws.keep {w w' : World} {v : Value} {L : List By} (h : Rws w v L) (hb : Below w.heap.size w w') : Rws w' v L := by
  obtain ⟨A, c, h1, h2⟩ := h
  refine ⟨A, c, h1, fun hne => ?_⟩
  obtain ⟨g, e1, e2, e3⟩ := h2 hne
  refine ⟨g, e1, Nat.lt_of_lt_of_le e2 hb.size, fun i hi => ?_⟩
  obtain ⟨Ai, ci, q1, q2⟩ := e3 i hi
  exact ⟨Ai, ci, (hb.cell (p := ⟨g, i, none⟩) e2).trans q1, q2.keep hb⟩
theorem _root_.Go.Proofs.YtkmpchffflemcaaGreatDoor.En.RowsAt.rws {base : Nat} {w : World} {v : Value} {L : List By} {A : Nat → Option Addr} {C : Nat → Nat} (h : RowsAt base w v L A C) : Rws w v L := by
  obtain ⟨Av, cv, rfl⟩ := h.row.any
  refine ⟨Av, cv, rfl, fun hne => ?_⟩
  have hpos : 0 < L.length := List.length_pos_iff.2 hne
  obtain ⟨g, cap, e, _, _, _, hg⟩ := h.row.form hpos
  injection e with e1 _ e2
  subst e1 e2
  refine ⟨g, rfl, hg, fun i hi => ⟨A i, C i, ?_, ?_⟩⟩
  · have := h.row.range (i := i) (fun i => rfl) hi 0 (.slice (A i) (L.getD i []).length (C i)) (by simp)
    simpa using this
  · rcases h.caps i hi with ⟨h0, _⟩ | ⟨_, g2, h1, h2⟩
    · rw [h0]; exact Bs.nil _ _
    · rw [h1]; exact h2.blk.bs
set_option maxRecDepth 100000 in
set_option maxHeartbeats 8000000 in
theorem SameR_in (L : List By) (va vb : Value) (w : World) (hA : Rws w va L) (hB : Rws w vb L) (hL : ∀ x ∈ L, x.length ≤ 100000000) (hLn : L.length ≤ 100000000) : Calls Tryz.prog 7 #[va, vb] w fun e w' => e = .returned (.bool true) ∧ Below w.heap.size w w' := by
  obtain ⟨A, c, rfl, hA⟩ := hA
  obtain ⟨B, d, rfl, hB⟩ := hB
  have HA := Lib.hid (show Rws w (.slice A L.length c) L from ⟨A, c, rfl, hA⟩); have HB := Lib.hid (show Rws w (.slice B L.length d) L from ⟨B, d, rfl, hB⟩)
  have HL := Lib.hid hL
  clear hA hB hL
  go_enter Tryz.func7, Tryz.ntmps7
  go_wp2_with fail
  go_loopw [5] (fun i wr => ∃ j : Nat, j ≤ L.length ∧ i = .int .i64 j ∧ Below w.heap.size w wr) (fun i _ => (L.length - intOf i).toNat)
  case atStart => exact ⟨0, by omega, rfl, Below.refl _ _⟩
  case round =>
    obtain ⟨j, hj, rfl, hb⟩ := hrel
    have HBL := Lib.hid hb
    by_cases h : j < L.length
    · have hj1 : (j : Int) < (L.length : Int) := by omega
      have hj0 : (0 : Int) ≤ (j : Int) := by omega
      have hne : L ≠ [] := fun e => by rw [e] at h; simp at h
      obtain ⟨A', c', e, hA⟩ := HA.out.keep hb
      injection e with e1 _ e2
      subst e1 e2
      obtain ⟨B', d', e, hB⟩ := HB.out.keep hb
      injection e with e1 _ e2
      subst e1 e2
      obtain ⟨g, rfl, hg, hA⟩ := hA hne
      obtain ⟨g2, rfl, hg2, hB⟩ := hB hne
      obtain ⟨Ai, ci, y1, hAi⟩ := hA j h
      obtain ⟨Bi, di, y2, hBi⟩ := hB j h
      obtain ⟨x, hx⟩ : ∃ x, L.getD j [] = x := ⟨_, rfl⟩
      rw [hx] at y1 y2 hAi hBi
      have hxl : x.length ≤ 100000000 := HL.out x (by rw [← hx, List.getD_eq_getElem?_getD, List.getElem?_eq_getElem h]; exact List.getElem_mem h)
      have HC := Lib.hid (show ∀ W, Below wr.heap.size wr W → Calls Tryz.prog 16 #[.slice Ai x.length ci, .slice Bi x.length di] W (fun e w' => e = .returned (.bool true) ∧ Below W.heap.size W w') from fun W hW => SameB_in x Ai Bi ci di W (hAi.keep hW) (hBi.keep hW) hxl)
      have HS := Lib.hid (show ∀ W, Below wr.heap.size wr W → (W.cell? ⟨g, j, none⟩ = some (.slice Ai x.length ci) ∧ W.cell? ⟨g2, j, none⟩ = some (.slice Bi x.length di)) ∧ Below wr.heap.size wr W from fun W hW => ⟨⟨(hW.cell (p := ⟨g, j, none⟩) hg).trans y1, (hW.cell (p := ⟨g2, j, none⟩) hg2).trans y2⟩, hW⟩)
      clear hA hB hAi hBi hx hxl hb hne y1 y2
      go_wp2_with fail
      refine wp_region_held_drew (S := (fun w' => (w'.cell? ⟨g, j, none⟩ = some (.slice Ai x.length ci) ∧ w'.cell? ⟨g2, j, none⟩ = some (.slice Bi x.length di)) ∧ Below wr.heap.size wr w')) (by kernel_rfl) (by exact HS.out _ (ext_drew (Below.refl _ _))) (fun hHeld => ?_)
      refine take_yes (i := 0) (oi := ?o1) (d := (some 17)) (v := ?v1) ?hi1 (by kernel_rfl) (by kernel_rfl) (by kernel_rfl) (fun _ _ _ h => h) ?hd1 ?hw1 ?hy1 (by assumption) ?_
      case hi1 => (simp only [List.getElem?_toArray, List.getElem?_cons_zero]; exact rfl)
      case hd1 => rfl
      case hw1 => rfl
      case hy1 => (intro w hSw; (try dsimp only at hSw); go_simp; try with_reducible rfl)
      try simp only [Act.put, List.setIfInBounds_toArray, List.set_cons_zero, List.set_cons_succ]
      refine take_yes (i := 1) (oi := ?o2) (d := (some 18)) (v := ?v2) ?hi2 (by kernel_rfl) (by kernel_rfl) (by kernel_rfl) (fun _ _ _ h => h) ?hd2 ?hw2 ?hy2 (by assumption) ?_
      case hi2 => (simp only [List.getElem?_toArray, List.getElem?_cons_zero, List.getElem?_cons_succ]; exact rfl)
      case hd2 => rfl
      case hw2 => rfl
      case hy2 => (intro w hSw; (try dsimp only at hSw); go_simp; try with_reducible rfl)
      try simp only [Act.put, List.setIfInBounds_toArray, List.set_cons_zero, List.set_cons_succ]
      refine take_yes (i := 2) (oi := ?o3) (d := (some 19)) (v := ?v3) ?hi3 (by kernel_rfl) (by kernel_rfl) (by kernel_rfl) (fun _ _ _ h => h) ?hd3 ?hw3 ?hy3 (by assumption) ?_
      case hi3 => (simp only [List.getElem?_toArray, List.getElem?_cons_zero, List.getElem?_cons_succ]; exact rfl)
      case hd3 => rfl
      case hw3 => rfl
      case hy3 => (intro w hSw; (try dsimp only at hSw); go_simp; try with_reducible rfl)
      try simp only [Act.put, List.setIfInBounds_toArray, List.set_cons_zero, List.set_cons_succ]
      refine take_yes (i := 3) (oi := ?o4) (d := (some 20)) (v := ?v4) ?hi4 (by kernel_rfl) (by kernel_rfl) (by kernel_rfl) (fun _ _ _ h => h) ?hd4 ?hw4 ?hy4 (by assumption) ?_
      case hi4 => (simp only [List.getElem?_toArray, List.getElem?_cons_zero, List.getElem?_cons_succ]; exact rfl)
      case hd4 => rfl
      case hw4 => rfl
      case hy4 => (intro w hSw; (try dsimp only at hSw); go_simp; try with_reducible rfl)
      try simp only [Act.put, List.setIfInBounds_toArray, List.set_cons_zero, List.set_cons_succ]
      refine take_yes (i := 4) (oi := ?o5) (d := (some 21)) (v := ?v5) ?hi5 (by kernel_rfl) (by kernel_rfl) (by kernel_rfl) (fun _ _ _ h => h) ?hd5 ?hw5 ?hy5 (by assumption) ?_
      case hi5 => (simp only [List.getElem?_toArray, List.getElem?_cons_zero, List.getElem?_cons_succ]; exact rfl)
      case hd5 => rfl
      case hw5 => rfl
      case hy5 => (intro w hSw; (try dsimp only at hSw); go_simp; try with_reducible rfl)
      try simp only [Act.put, List.setIfInBounds_toArray, List.set_cons_zero, List.set_cons_succ]
      refine take_yes (i := 5) (oi := ?o6) (d := (some 22)) (v := ?v6) ?hi6 (by kernel_rfl) (by kernel_rfl) (by kernel_rfl) (fun _ _ _ h => h) ?hd6 ?hw6 ?hy6 (by assumption) ?_
      case hi6 => (simp only [List.getElem?_toArray, List.getElem?_cons_zero, List.getElem?_cons_succ]; exact rfl)
      case hd6 => rfl
      case hw6 => rfl
      case hy6 => (intro w hSw; (try dsimp only at hSw); go_simp; try with_reducible rfl)
      try simp only [Act.put, List.setIfInBounds_toArray, List.set_cons_zero, List.set_cons_succ]
      refine take_yes (i := 6) (oi := ?o7) (d := (some 23)) (v := ?v7) ?hi7 (by kernel_rfl) (by kernel_rfl) (by kernel_rfl) (fun _ _ _ h => h) ?hd7 ?hw7 ?hy7 (by assumption) ?_
      case hi7 => (simp only [List.getElem?_toArray, List.getElem?_cons_zero, List.getElem?_cons_succ]; exact rfl)
      case hd7 => rfl
      case hw7 => rfl
      case hy7 => (intro w hSw; (try dsimp only at hSw); go_simp; try with_reducible rfl)
      try simp only [Act.put, List.setIfInBounds_toArray, List.set_cons_zero, List.set_cons_succ]
      refine take_yes (i := 7) (oi := ?o8) (d := (some 24)) (v := ?v8) ?hi8 (by kernel_rfl) (by kernel_rfl) (by kernel_rfl) (fun _ _ _ h => h) ?hd8 ?hw8 ?hy8 (by assumption) ?_
      case hi8 => (simp only [List.getElem?_toArray, List.getElem?_cons_zero, List.getElem?_cons_succ]; exact rfl)
      case hd8 => rfl
      case hw8 => rfl
      case hy8 => (intro w hSw; (try dsimp only at hSw); go_simp; try with_reducible rfl)
      try simp only [Act.put, List.setIfInBounds_toArray, List.set_cons_zero, List.set_cons_succ]
      refine wpAnyH_ready (rs := [8]) (by kernel_rfl) (by simp) ?_
      refine AllReadyH.cons rfl (fun K hK => ?_) AllReadyH.nil
      go_simp
      (go_at_call 16; refine (HC.out _ hHeld.2).mono ?_; rintro e w8 ⟨rfl, hb8⟩; have hbz := ext_trans hHeld.2 hb8)
      go_wp2_with fail
      refine hK.out _ _ (by exact HS.out _ hbz) (fun hHeld8 => ?_)
      clear hK K
      try simp only [Act.put, List.setIfInBounds_toArray, List.set_cons_zero, List.set_cons_succ]
      refine take_yes (i := 9) (oi := ?o9) (d := (some 26)) (v := ?v9) ?hi9 (by kernel_rfl) (by kernel_rfl) (by kernel_rfl) (fun _ _ _ h => h) ?hd9 ?hw9 ?hy9 (by assumption) ?_
      case hi9 => (simp only [List.getElem?_toArray, List.getElem?_cons_zero, List.getElem?_cons_succ]; exact rfl)
      case hd9 => rfl
      case hw9 => rfl
      case hy9 => (intro w hSw; (try dsimp only at hSw); go_simp; try with_reducible rfl)
      try simp only [Act.put, List.setIfInBounds_toArray, List.set_cons_zero, List.set_cons_succ]
      refine wpAnyH_done (by kernel_rfl) ?_ _
      go_wp2_with fail
      go_roundw
      case rel => exact ⟨j + 1, by omega, by go_num, ext_trans HBL.out hHeld8.2⟩
      case measure => simp [intOf]; omega
    · obtain rfl : j = L.length := by omega
      clear hb
      go_wp2_with fail
      go_ret
      exact ⟨rfl, HBL.out⟩

end Go.Proofs.YtkmpchffflemcaaGreatDoor.Fl
end

/- Marks of rows: a row's bytes in a block of their own. -/
section
set_option linter.unusedVariables false
set_option linter.unusedSimpArgs false
namespace Go.Proofs.YtkmpchffflemcaaGreatDoor.Fl
open Go.RowKit
open Go.Proofs.YtkmpchffflemcaaGreatDoor.Oc (u8_info Bs bytesV byteV bytesV_len okA)
open Go.Proofs.YtkmpchffflemcaaGreatDoor.En (By)

def byteOf (n : Nat) : UInt8 := UInt8.ofNat n
theorem byteOf_val (n : Nat) : (((byteOf n).toNat : Nat) : Int) = (n : Int) % 256 := by
  unfold byteOf; rw [UInt8.toNat_ofNat']; omega
def mkL (k i : Nat) : By := [35, byteOf k, byteOf (k / 256), byteOf (k / 65536), 47, byteOf i, byteOf (i / 256), byteOf (i / 65536)]
def mkT (k i : Nat) : ByteArray := ⟨(mkL k i).toArray⟩
theorem upon_text {P : Program} {o : Oper} {a : Act} {next : Act → World → Prop} {Q : Exit → Act → World → Prop} {w : World} {A : Addr} {cap : Nat} (l : List UInt8) {src dst e : TypeId}
    (hs : P.underlying src = some (.slice e)) (he : P.underlying e = some (.int .u8)) (hd : P.underlying dst = some .string)
    (hc : ∀ j (hj : j < l.length), w.cell? (A.add j) = some (.int .u8 (l[j].toNat : Int)))
    (h : next (a.put o.dst (.string ⟨l.toArray⟩)) w) :
    o.upon P a next Q (((convert src dst (.slice (some A) l.length cap)).run P w).andThen fun v w' => .ok (.value v) w') := by
  rw [run_convert_bytes_back w src dst e A cap l hs he hd hc]
  exact h
set_option maxRecDepth 100000 in
set_option maxHeartbeats 2000000 in
theorem MarkText (k i : Nat) (hk : k < 256) (hi : i < 16777216) (w : World) :
    Calls Tryz.prog 71 #[.int .i64 (k : Int), .int .i64 (i : Int)] w fun e w' => e = .returned (.string (mkT k i)) ∧ Below w.heap.size w w' := by
  go_enter Tryz.func71, Tryz.ntmps71
  go_wp2_with fail
  refine upon_text (mkL k i) Tryz.underlying22 Tryz.underlying5 Tryz.underlying9 (fun j hj => ?_) ?_
  · have hj8 : j < 8 := hj
    rw [add_zero_off]
    refine ((Arr.fresh w _ _).cell j).trans ?_
    have key : ∀ (x : Int) (n : Nat), x = (n : Int) % 256 → (some (Value.int .u8 x) : Option Value) = some (.int .u8 (((byteOf n).toNat : Nat) : Int)) := fun x n hx => by rw [byteOf_val, hx]
    match j, hj8 with
    | 0, _ => rfl
    | 1, _ => exact key _ k (by omega)
    | 2, _ => exact key _ (k / 256) (by omega)
    | 3, _ => exact key _ (k / 65536) (by omega)
    | 4, _ => rfl
    | 5, _ => exact key _ i (by omega)
    | 6, _ => exact key _ (i / 256) (by omega)
    | 7, _ => exact key _ (i / 65536) (by omega)
  go_wp2_with fail
  go_ret
  exact ⟨rfl, by repeat (first | with_reducible exact Below.refl _ _ | with_reducible refine ext_alloc ?_ _ | with_reducible refine ext_drew ?_ | with_reducible refine ext_drewN ?_ _ | (refine ext_setCell ?_ (by simp at *; omega) _) | with_reducible refine ext_trans ?_ (by assumption))⟩
/-- a mark among rows: eight bytes in a block of their own -/
def ElR (w : World) (q i : Nat) (u : Value) : Prop := ∃ g c cur mk, u = .slice (some ⟨g, 0, none⟩) 8 c ∧ w.heap[g]? = some (.cells cur 5 mk) ∧ ∀ (j : Nat) (x : Value), (bytesV (mkL q i))[j]? = some x → cur[j]? = some x
theorem ElR.same {w w' : World} {q i : Nat} {u : Value} (h : ElR w q i u) (hk : ∀ g c cur mk, u = .slice (some ⟨g, 0, none⟩) 8 c → w.heap[g]? = some (.cells cur 5 mk) → w'.heap[g]? = w.heap[g]?) : ElR w' q i u := by
  obtain ⟨g, c, cur, mk, h1, h2, h3⟩ := h
  exact ⟨g, c, cur, mk, h1, (hk g c cur mk h1 h2).trans h2, h3⟩
theorem elR_ok : ElOk 22 24 ElR where
  one := fun ⟨_, _, _, _, h, _⟩ => by rw [h]; rfl
  keep := fun h hb => h.same fun g c cur mk _ h2 => hb.block g (Array.getElem?_eq_some_iff.1 h2).1
  grown := fun {w w' q i u gg t cs} h ha ht hg => h.same fun g c cur mk _ h2 => hg.block g (Array.getElem?_eq_some_iff.1 h2).1 (fun e => by
    injection e with e
    subst e
    unfold Arr at ha
    rw [ha] at h2
    injection h2 with h2
    injection h2 with _ h2 _
    rcases ht with rfl | rfl <;> revert h2 <;> decide)
theorem ElR.bs {w : World} {q i : Nat} {u : Value} (h : ElR w q i u) : ∃ A c, u = .slice A (mkL q i).length c ∧ Bs w A (mkL q i) := by
  obtain ⟨g, c, cur, mk, h1, h2, h3⟩ := h
  refine ⟨some ⟨g, 0, none⟩, c, h1, fun _ => ⟨g, 0, rfl, (Array.getElem?_eq_some_iff.1 h2).1, fun j x hx => ?_⟩⟩
  rw [Nat.zero_add]
  have : w.cell? ⟨g, j, none⟩ = cur[j]? := by simp [World.cell?, h2]
  exact this.trans (h3 j x hx)
/-- '[]byte(s)' at a step of the walk: the new row by its block -/
theorem upon_row {P : Program} {o : Oper} {a : Act} {next : Act → World → Prop} {Q : Exit → Act → World → Prop} {w : World} {s : ByteArray} {src dst e : TypeId}
    (hs : P.underlying src = some .string) (hd : P.underlying dst = some (.slice e)) (he : P.underlying e = some (.int .u8))
    (h : ∀ (cap : Nat) (w3 : World) (cur : Array Value) (mk : Nat × Nat), w3.heap[w.heap.size]? = some (.cells cur e mk) → (∀ (j : Nat) (x : Value), (bytesV s.data.toList)[j]? = some x → cur[j]? = some x) → Below w.heap.size w w3 → next (a.put o.dst (.slice (some ⟨w.heap.size, 0, none⟩) s.size cap)) w3) :
    o.upon P a next Q (((convert src dst (.string s)).run P w).andThen fun v w' => .ok (.value v) w') := by
  rw [run_bytes_of_string w src dst e s hs hd he]
  refine h _ _ (bytesRow s (grownCap w s.size 0 e)) ((bytesRow s (grownCap w s.size 0 e)).size, (bytesRow s (grownCap w s.size 0 e)).size + 1) ?_ (fun j x hx => ?_) (((Below.refl _ _).drew).alloc (Nat.le_refl _) _)
  · show (w.drew.heap.push _)[w.heap.size]? = _
    have : w.drew.heap = w.heap := rfl
    rw [this]; simp
  · have hjl : j < s.data.size := by
      have := (List.getElem?_eq_some_iff.1 hx).1
      rw [bytesV_len] at this
      simpa using this
    unfold bytesRow
    rw [Array.getElem?_append_left (by simpa using hjl), ← hx]
    simp [bytesV]
    rfl
set_option maxRecDepth 100000 in
set_option maxHeartbeats 2000000 in
theorem MarkRow (k i : Nat) (hk : k < 256) (hi : i < 16777216) (w : World) :
    Calls Tryz.prog 30 #[.int .i64 (k : Int), .int .i64 (i : Int)] w fun e w' => ∃ g c, e = .returned (.slice (some ⟨g, 0, none⟩) 8 c) ∧ ElR w' k i (.slice (some ⟨g, 0, none⟩) 8 c) ∧ Below w.heap.size w w' := by
  go_enter Tryz.func30, Tryz.ntmps30
  go_wp2_with fail
  refine (MarkText k i hk hi w).mono ?_
  rintro e w1 ⟨rfl, hb⟩
  have HB := Lib.hid hb
  clear hb
  obtain ⟨T, hT⟩ : ∃ T, mkT k i = T := ⟨_, rfl⟩
  rw [hT]
  have HT := Lib.hid hT
  clear hT
  go_wp2_with fail
  refine upon_row Tryz.underlying9 Tryz.underlying22 Tryz.underlying5 (fun cap w3 cur mk h1 h2 h3 => ?_)
  have hsz : T.size = 8 := by rw [← HT.out]; rfl
  have hF : ∃ g c, Ending.returned (Value.slice (some ⟨w1.heap.size, 0, none⟩) T.size cap) = .returned (.slice (some ⟨g, 0, none⟩) 8 c) ∧ ElR w3 k i (.slice (some ⟨g, 0, none⟩) 8 c) ∧ Below w.heap.size w w3 := ⟨_, cap, by rw [hsz], ⟨_, cap, cur, mk, rfl, h1, fun j x hx => h2 j x (by rw [← HT.out]; exact hx)⟩, ext_trans HB.out h3⟩
  have HF := Lib.hid hF
  clear hF h1 h2 h3 hsz
  go_wp2_with fail
  go_ret
  exact HF.out

end Go.Proofs.YtkmpchffflemcaaGreatDoor.Fl
end
