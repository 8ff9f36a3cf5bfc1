/- Packed: Kit22, Items, Items2, Sort0, SortLay, Sort1, All, Items3, Kit23, SortPlain, BList, BList2, BCopy, BAll. -/
import Derived.Test.YtbnkanehjnepbaaGreatDoorPk1
import Derived.Lib.SliceRun
import Derived.Test.YtbnkanehjnepbaaGreatDoorPk2
import Derived.Test.YtbnkanehjnepbaaGreatDoorPk4
import Derived.Sort.Grow
import Derived.Lib.Small
import Derived.Shelf.SlLaysF0
import Derived.Ground.SlsfProg
import Derived.Shelf.SlGeneric
import Derived.Test.YtbnkanehjnepbaaGreatDoorProg
import Derived.Shelf.SlSortCmp.WholeK
import Derived.OrdersHeld
import Derived.Deep.RegionHeld
import Derived.OrdersIn
import Derived.Deep.MidRow
import Derived.RangeFuncCalls
import Derived.Test.YtbnkanehjnepbaaGreatDoorPk6
import Derived.Shelf.Abstract
import Derived.RegionIn
import Derived.RangeFuncNested
import Derived.RangeFuncWrites
set_option linter.unusedVariables false
set_option linter.unusedSimpArgs false
/- A row cut at a place; what stands behind is cleared; an empty slice of one's own. No program in sight. -/
section
set_option linter.unusedVariables false
set_option linter.unusedSimpArgs false
namespace Go.Proofs.YtbnkanehjnepbaaGreatDoor
open Go.RowKit

theorem RowIn.cutTo {S : Nat → Prop} {w w' : World} {e : TypeId} {sz n g cap i : Nat} {c : Nat → List Value} (h : RowIn S w e sz (.slice (some ⟨g, 0, none⟩) n cap) n c) (hc : ∀ i, (c i).length = sz) (hi : i ≤ n)
    (hw : ∀ cur, w.heap[g]? = some (.cells cur e (0, 0)) → ∃ cs', w'.heap[g]? = some (.cells cs' e (0, 0)) ∧ cs'.size = cur.size ∧ ∀ j, j < i * sz → cs'[j]? = cur[j]?) : RowIn S w' e sz (.slice (some ⟨g, 0, none⟩) i cap) i c := by
  refine ⟨?_, fun g' hg => h.block g' hg⟩
  obtain ⟨ho1, ho⟩ := h.own
  rcases ho with ⟨hv, _⟩ | ⟨g', cap', cur, hv, hb, hh, h1, h2, h3, h4⟩
  · cases hv
  · injection hv with e1 _ e2
    injection e1 with e1
    injection e1 with e1
    subst e1 e2
    obtain ⟨cs', k1, k2, k3⟩ := hw cur hh
    refine ⟨flat_length hc i, .inr ⟨g, cap, cs', rfl, hb, k1, by omega, h2, k2.trans h3, ?_⟩⟩
    apply List.ext_getElem?
    intro j
    have hfn := flat_length hc n
    have hfi := flat_length hc i
    rcases Nat.lt_or_ge j (i * sz) with hj | hj
    · rw [List.getElem?_take_of_lt hj, Array.getElem?_toList, k3 j hj]
      have hjn : j < n * sz := Nat.lt_of_lt_of_le hj (Nat.mul_le_mul_right _ hi)
      have h5 : (cur.toList.take (n * sz))[j]? = (flat c n)[j]? := by rw [h4]
      rw [List.getElem?_take_of_lt hjn, Array.getElem?_toList] at h5
      rw [h5]
      have hsz : 0 < sz := by rcases Nat.eq_zero_or_pos sz with h0 | h0; rw [h0] at hj; simp at hj; exact h0
      have a1 : j / sz < i := (Nat.div_lt_iff_lt_mul hsz).2 hj
      have a2 : j % sz < sz := Nat.mod_lt _ hsz
      have a3 : j / sz * sz + j % sz = j := by rw [Nat.mul_comm]; exact Nat.div_add_mod j sz
      rw [← a3, flat_get hc (by omega) a2, flat_get hc a1 a2]
    · rw [List.getElem?_eq_none (by rw [List.length_take]; omega), List.getElem?_eq_none (by omega)]
theorem RowIn.head {S : Nat → Prop} {w : World} {e : TypeId} {sz n g cap i : Nat} {c : Nat → List Value} (h : RowIn S w e sz (.slice (some ⟨g, 0, none⟩) n cap) n c) (hc : ∀ i, (c i).length = sz) (hi : i ≤ n) : RowIn S w e sz (.slice (some ⟨g, 0, none⟩) i cap) i c :=
  h.cutTo hc hi fun cur hh => ⟨cur, hh, rfl, fun _ _ => rfl⟩
theorem RowIn.cells_at {S : Nat → Prop} {w : World} {e : TypeId} {sz n g cap : Nat} {c : Nat → List Value} (h : RowIn S w e sz (.slice (some ⟨g, 0, none⟩) n cap) n c) : ∃ cur, w.heap[g]? = some (.cells cur e (0, 0)) ∧ n * sz ≤ cur.size := by
  rcases h.own.2 with ⟨hv, _⟩ | ⟨g', cap', cur, hv, hb, hh, h1, h2, h3, h4⟩
  · cases hv
  · injection hv with e1 _ e2
    injection e1 with e1
    injection e1 with e1
    subst e1 e2
    exact ⟨cur, hh, by rw [h3]; exact Nat.mul_le_mul_right _ h1⟩
theorem zeroCells_len (z : Array Value) (n : Nat) : (Builtin.zeroCells z n).toList.length = n * z.size := by simp [Builtin.zeroCells]
theorem zeroCells_mem {z : Array Value} {n : Nat} (h1 : ∀ v ∈ z.toList, v.oneCell' = true) : ∀ v ∈ (Builtin.zeroCells z n).toList, v.oneCell' = true := fun v hv => by
  rw [Builtin.zeroCells, Array.toList_map, List.mem_map] at hv
  obtain ⟨i, hi, rfl⟩ := hv
  have hlt : i < n * z.size := by simpa using hi
  have hz : 0 < z.size := by rcases Nat.eq_zero_or_pos z.size with h0 | h0; rw [h0] at hlt; simp at hlt; exact h0
  have hm : i % z.size < z.size := Nat.mod_lt _ hz
  rw [getElem!_pos z (i % z.size) hm]
  exact h1 _ (by simp)
/-- clear of a row's tail -/
theorem wpList_clear_tail {P : Program} {w : World} {ops : Array Oper} {rest : List Oper} {o : Oper} {a : Act} {Q : Exit → Act → World → Prop} (hgd : o.guard = none) (s : Operand) (t : TypeId) (ho : o.op = .call { callee := .builtin .clear, args := #[s], argTypes := #[t] })
    {S : Nat → Prop} (e : TypeId) (z : Value) (sz n i g cap : Nat) (c : Nat → List Value) (ht : P.underlying t = some (.slice e)) (hz : ∀ w, (zeroValue e).run P w = .ok z w) (hzs : z.cells.size = sz) (h1 : ∀ v ∈ z.cells.toList, v.oneCell' = true)
    (A : Option Addr) (m c' : Nat) (hx : a.eval s = .slice A m c') (hm : m = n - i) (hA : m ≠ 0 → A = some ⟨g, i * sz, none⟩) (hR : RowIn S w e sz (.slice (some ⟨g, 0, none⟩) n cap) n c) (hc : ∀ i, (c i).length = sz) (hi : i ≤ n)
    (h : ∀ w', RowIn S w' e sz (.slice (some ⟨g, 0, none⟩) i cap) i c → w.grownBy w' (some g) → w'.heap.size = w.heap.size → wpList P ops Q rest (a.put o.dst (.tuple #[])) w') : wpList P ops Q (o :: rest) a w := by
  refine wpList_plain hgd fun K hK => ?_
  by_cases hm0 : m = 0
  · have hrun : (Builtin.clear_ #[t] o.type #[.slice A m c']).run P w = .ok (.tuple #[]) w := by
      rw [hm0]
      cases A <;> simp [Builtin.clear_, run_underlying ht]
    unfold Oper.wp
    simp [execOp, ho, resolve, invoke, builtin, hx, hrun, Result.andThen]
    exact hK _ _ (h w (hR.head hc hi) ⟨rfl, rfl, rfl, Nat.le_refl _, fun _ _ _ => rfl⟩ rfl)
  · obtain rfl := hA hm0
    obtain ⟨cur, hcur, hsz⟩ := hR.cells_at
    have hlen : (Builtin.zeroCells z.cells m).toList.length = m * sz := by rw [zeroCells_len, hzs]
    have hle : i * sz + m * sz ≤ cur.size := by rw [← Nat.add_mul, hm, Nat.add_sub_cancel' hi]; exact hsz
    have hg : Arr w g e cur := hcur
    have hst := run_storeCells_cells (P := P) g (i * sz) (Builtin.zeroCells z.cells m).toList 0 w
      (fun j hj => by rw [hlen] at hj; rw [Nat.add_zero, hg.cell, Array.getElem?_eq_getElem (by omega)]; rfl)
      (fun j _ => hg.mark _) (zeroCells_mem h1)
    simp only [Nat.add_zero] at hst
    obtain ⟨k, rfl⟩ : ∃ k, m = k + 1 := ⟨m - 1, by omega⟩
    have hrun : (Builtin.clear_ #[t] o.type #[.slice (some ⟨g, i * sz, none⟩) (k + 1) c']).run P w = .ok (.tuple #[]) (w.setCells g (i * sz) (Builtin.zeroCells z.cells (k + 1)).toList) := by
      simp [Builtin.clear_, run_underlying ht, hz, hst]
    unfold Oper.wp
    simp [execOp, ho, resolve, invoke, builtin, hx, hrun, Result.andThen]
    obtain ⟨h2, h3⟩ := only_setCells g (Builtin.zeroCells z.cells (k + 1)).toList (i * sz) w
    refine hK _ _ (h _ (hR.cutTo hc hi fun cur' hcur' => ?_) h2 h3)
    rw [hcur] at hcur'
    injection hcur' with hcur'
    injection hcur' with hcur' _ _
    subst hcur'
    obtain ⟨cs', k1, k2, _, k4⟩ := arr_setCells g e (Builtin.zeroCells z.cells (k + 1)).toList (i * sz) w cur hg (by rw [hlen]; exact hle)
    exact ⟨cs', k1, k2, fun j hj => k4 j (.inl hj)⟩
/-- an empty slice that has a block of its own -/
theorem own_empty (w : World) (e : TypeId) (sz : Nat) : (w.alloc (.cells #[] e)).ownsRow w.heap.size e sz (.slice (some ⟨w.heap.size, 0, none⟩) 0 0) 0 [] :=
  ⟨by simp, .inr ⟨w.heap.size, 0, #[], rfl, Nat.le_refl _, World.alloc_heap_new w _, Nat.le_refl _, by unfold maxLen; omega, by simp, by simp⟩⟩

end Go.Proofs.YtbnkanehjnepbaaGreatDoor
end

/- Layer 15: the index's items: a copy of the table, cut to what is full. -/
section
set_option linter.unusedVariables false
set_option linter.unusedSimpArgs false
namespace Go.Proofs.YtbnkanehjnepbaaGreatDoor.Idx
open Go.RowKit

theorem flat_one {c : Nat → List Value} (h1 : ∀ i, ∀ u ∈ c i, u.oneCell' = true) : ∀ n, ∀ u ∈ flat c n, u.oneCell' = true
  | 0, u, hu => by simp [flat] at hu
  | n + 1, u, hu => by
    rw [flat, List.mem_append] at hu
    rcases hu with hu | hu
    · exact flat_one h1 n u hu
    · exact h1 n u hu
theorem Rows.keep {w w' : World} {g n : Nat} {f : Nat → Slot} (h : Rows w g n f) (hb : Below w.heap.size w w') : Rows w' g n f := h.same (hb.block g h.lt)
theorem slotL_len (s : Slot) : (slotL s).length = 3 := rfl
theorem slotL_one (s : Slot) : ∀ u ∈ slotL s, u.oneCell' = true := by
  intro u hu
  simp only [slotL, List.mem_cons, List.not_mem_nil, or_false] at hu
  rcases hu with rfl | rfl | rfl <;> rfl
theorem slot_size : (Tryz.prog.info? 281).map (·.size) = some 3 := by kernel_rfl
theorem rows_read {w : World} {g n : Nat} {f : Nat → Slot} (h : Rows w g n f) : ∀ j u, (flat (fun i => slotL (f i)) n)[j]? = some u → w.cell? ((⟨g, 0, none⟩ : Addr).add j) = some u := by
  obtain ⟨cur, h1, h2⟩ := h
  intro j u hu
  rw [add_zero_off, show w.cell? ⟨g, j, none⟩ = cur[j]? from by simp [World.cell?, h1]]
  have hj : j < n * 3 := by
    have := (List.getElem?_eq_some_iff.1 hu).1
    rwa [flat_length (sz := 3) (fun _ => rfl)] at this
  have a1 : j / 3 < n := (Nat.div_lt_iff_lt_mul (by decide)).2 hj
  have a2 : j % 3 < 3 := Nat.mod_lt _ (by decide)
  have a3 : j / 3 * 3 + j % 3 = j := by rw [Nat.mul_comm]; exact Nat.div_add_mod j 3
  rw [← a3, flat_get (sz := 3) (fun _ => rfl) a1 a2] at hu
  rw [← a3, ← hu]
  have h3 := h2 (j / 3) a1
  rcases (show j % 3 = 0 ∨ j % 3 = 1 ∨ j % 3 = 2 by omega) with e | e | e <;> rw [e]
  · exact h3.1
  · exact h3.2.1
  · exact h3.2.2
def SlotsIn (w0 : World) (v : Value) (n : Nat) (f : Nat → Slot) (w : World) : Prop := RowIn (fun k => w0.heap.size ≤ k) w 281 3 v n (fun i => slotL (f i))
-- slices.Clone
theorem nil_slots (ad : Addr) (n c : Nat) (W : World) : (binOp BinOp.eql 276 (.slice (some ad) n c) (.slice none 0 0)).run Tryz.prog W = .ok (.bool false) W := Go.Lib.run_eql_slice_nil W 276 281 (some ad) n c 0 0 Tryz.underlying276
def CsOut (n : Nat) (f : Nat → Slot) (w : World) (e : Ending) (w' : World) : Prop := ∃ g cap, e = .returned (.slice (some ⟨g, 0, none⟩) n cap) ∧ SlotsIn w (.slice (some ⟨g, 0, none⟩) n cap) n f w' ∧ Below w.heap.size w w'
set_option maxRecDepth 100000 in
set_option maxHeartbeats 2000000 in
theorem SClone_in (g n c : Nat) (f : Nat → Slot) (w : World) (h : Rows w g n f) (hn : 1 ≤ n ∧ n ≤ 16384) : Calls Tryz.prog 206 #[.slice (some ⟨g, 0, none⟩) n c] w (CsOut n f w) := by
  obtain ⟨i0, hi, hz0, hz1, hz2⟩ := info_parts slot_info
  have HH := Lib.hid h
  have hq := nil_slots ⟨g, 0, none⟩ n c
  clear h
  go_enter Tryz.func206, Tryz.ntmps206
  go_wp2_with (at_builtin; refine wpList_append_own _ rfl _ _ 276 rfl w.heap.size 281 i0 (.agg #[.int .u8 0, .int .u32 0, .int .i64 0]) 3 16 Tryz.underlying276 hi hz0 hz1 hz2 rfl (by decide) (.slice (some ⟨w.heap.size, 0, none⟩) 0 0) 0 [] rfl (own_empty w 281 3) ⟨g, 0, none⟩ n c (flat (fun i => slotL (f i)) n) rfl (by rw [flat_length (sz := 3) (fun _ => rfl)]) (rows_read (HH.out.keep (ext_alloc (Below.refl _ _) _))) (flat_one (fun i => slotL_one _) n) (by unfold maxLen; omega) (by omega) (by simp) ?_; intro v2 w2 hown2 hg2 hnil2; have HW2 := Lib.hid hown2; have HG2 := Lib.hid hg2; obtain ⟨VA, vc, hv2⟩ := own_slice hown2; subst hv2; clear hown2 hg2 hnil2)
  have hw2 := HW2.out
  rw [Nat.zero_add, List.nil_append] at hw2
  obtain ⟨gg, cap, hgg⟩ : ∃ gg cap, VA = some ⟨gg, 0, none⟩ ∧ vc = cap := by
    rcases hw2.2 with ⟨h0, h1⟩ | ⟨g', cap', cur, hv, _⟩
    · omega
    · injection hv with e1 _ e2; exact ⟨g', cap', e1, e2⟩
  obtain ⟨rfl, rfl⟩ := hgg
  have hr2 : SlotsIn w (.slice (some ⟨gg, 0, none⟩) n vc) n f w2 := ⟨own_base_le hw2 (Nat.zero_le _), fun g hg => (own_lt hw2 hg).2⟩
  go_ret
  exact ⟨gg, vc, by simp, hr2, Below.grown (ext_alloc (Below.refl _ _) _) HG2.out (by simp) (fun k hk => by simp [Value.ownBlock] at hk; omega)⟩

end Go.Proofs.YtbnkanehjnepbaaGreatDoor.Idx
end

/- Layer 15: the index's items: what is not full goes. -/
section
set_option linter.unusedVariables false
set_option linter.unusedSimpArgs false
namespace Go.Proofs.YtbnkanehjnepbaaGreatDoor.Idx
open Go.RowKit

-- items$1
set_option maxRecDepth 100000 in
set_option maxHeartbeats 1000000 in
theorem bad_in (st : Nat) (id v : Int) (w : World) : Calls Tryz.prog 207 #[.agg #[.int .u8 (st : Int), .int .u32 id, .int .i64 v]] w (fun e w' => e = .returned (.bool ((st : Int) != 1)) ∧ Below w.heap.size w w') := by
  go_enter Tryz.func207, Tryz.ntmps207
  go_wp2_with fail
  go_ret
  exact ⟨rfl, ext_alloc (Below.refl _ _) _⟩
def RowS (g : Nat) (w : World) (n cap : Nat) (c : Nat → Slot) : Prop := RowIn (fun k => k = g) w 281 3 (.slice (some ⟨g, 0, none⟩) n cap) n (fun i => slotL (c i))
def IxOut (f : Nat → Slot) (n : Nat) (w : World) (e : Ending) (w' : World) : Prop :=
  Below w.heap.size w w' ∧ ((∃ k, k < n ∧ (∀ j, j < k → (f j).state = 1) ∧ (f k).state ≠ 1 ∧ e = .returned (.int .i64 (k : Nat))) ∨ ((∀ j, j < n → (f j).state = 1) ∧ e = .returned (.int .i64 (-1))))
-- slices.IndexFunc
set_option maxRecDepth 100000 in
set_option maxHeartbeats 2000000 in
theorem SIndex_in (g n cap : Nat) (f : Nat → Slot) (w : World) (h : RowS g w n cap f) (hn : n ≤ 16384) : Calls Tryz.prog 235 #[.slice (some ⟨g, 0, none⟩) n cap, .func (.func 207) #[] #[]] w (IxOut f n w) := by
  have HH := Lib.hid h
  clear h
  go_enter Tryz.func235, Tryz.ntmps235
  go_wp2_with fail
  go_loopw [8] (fun i wr => ∃ j : Nat, j ≤ n ∧ i = .int .i64 j ∧ (∀ x, x < j → (f x).state = 1) ∧ Below w.heap.size w wr) (fun i _ => (n - intOf i).toNat)
  case atStart => exact ⟨0, Nat.zero_le _, rfl, fun x hx => absurd hx (Nat.not_lt_zero _), Below.refl _ _⟩
  case round =>
    obtain ⟨j, hj, rfl, hst, hb⟩ := hrel
    have HB := Lib.hid hb; have HST := Lib.hid hst
    clear hb hst
    by_cases hlt : j < n
    · have hl1 : (j : Int) < (n : Int) := by omega
      have hl0 : (0 : Int) ≤ (j : Int) := by omega
      have HR := Lib.hid (HH.out.keep HB.out)
      go_wp2_with (refine wpList_load_elem rfl 281 _ rfl HR.out (fun _ => rfl) j hlt rfl _ Tryz.underlying281 rfl slot_size ?_)
      refine (bad_in (f j).state (f j).id (f j).v wr).mono ?_
      rintro e w2 ⟨rfl, hb2⟩
      have HB2 := Lib.hid (ext_trans HB.out hb2)
      clear hb2
      by_cases hst : (f j).state = 1
      · have hq : (((f j).state : Int) != 1) = false := by simp [hst]
        rw [hq]
        have HS1 := Lib.hid hst
        clear hst hq
        go_wp2_with fail
        go_roundw
        case rel =>
          have hall : ∀ x, x < j + 1 → (f x).state = 1 := fun x hx => by
            rcases Nat.lt_or_ge x j with h1 | h1
            · exact HST.out x h1
            · obtain rfl : x = j := by omega
              exact HS1.out
          exact ⟨j + 1, by omega, by go_num, hall, HB2.out⟩
        case measure => simp [intOf]; omega
      · have hq : (((f j).state : Int) != 1) = true := by simp; omega
        rw [hq]
        have HS1 := Lib.hid hst
        clear hst hq
        go_wp2_with fail
        go_ret
        exact ⟨HB2.out, .inl ⟨j, hlt, HST.out, HS1.out, rfl⟩⟩
    · have hl1 : ¬ (j : Int) < (n : Int) := by omega
      go_wp2_with fail
      go_ret
      exact ⟨HB.out, .inr ⟨fun x hx => HST.out x (by omega), rfl⟩⟩

def kept (f : Nat → Slot) (j : Nat) : List Slot := ((List.range j).map f).filter fun s => decide (s.state = 1)
theorem kept_len (f : Nat → Slot) (j : Nat) : (kept f j).length ≤ j := by
  unfold kept
  exact Nat.le_trans (List.length_filter_le _ _) (by simp)
theorem kept_yes {f : Nat → Slot} {j : Nat} (h : (f j).state = 1) : kept f (j + 1) = kept f j ++ [f j] := by
  unfold kept; rw [List.range_succ, List.map_append, List.filter_append]; simp [h]
theorem kept_no {f : Nat → Slot} {j : Nat} (h : (f j).state ≠ 1) : kept f (j + 1) = kept f j := by
  unfold kept; rw [List.range_succ, List.map_append, List.filter_append]; simp [h]
theorem kept_all {f : Nat → Slot} : ∀ {j : Nat}, (∀ x, x < j → (f x).state = 1) → kept f j = (List.range j).map f
  | 0, _ => rfl
  | j + 1, h => by rw [kept_yes (h j (by omega)), kept_all fun x hx => h x (by omega), List.range_succ, List.map_append]; rfl
def Slot.none : Slot := ⟨0, 0, 0⟩
/-- a list of slots as a row's contents -/
def atL (l : List Slot) (i : Nat) : Slot := l.getD i Slot.none
def DlOut (f : Nat → Slot) (n g cap : Nat) (w : World) (e : Ending) (w' : World) : Prop := e = .returned (.slice (some ⟨g, 0, none⟩) (kept f n).length cap) ∧ RowS g w' (kept f n).length cap (atL (kept f n)) ∧ Tch (· = g) w w'
theorem RowS.congr {g n cap : Nat} {w : World} {c d : Nat → Slot} (h : RowS g w n cap c) (hcd : ∀ i, i < n → c i = d i) : RowS g w n cap d :=
  ⟨by have := h.own; rwa [flat_congr (fun i hi => by rw [hcd i hi])] at this, h.block⟩
theorem slot_zero (w : World) : (zeroValue 281).run Tryz.prog w = .ok (.agg #[.int .u8 0, .int .u32 0, .int .i64 0]) w := by kernel_rfl
-- slices.DeleteFunc
set_option maxRecDepth 100000 in
set_option maxHeartbeats 4000000 in
theorem SDelete_in (g n cap : Nat) (f : Nat → Slot) (w : World) (h : RowS g w n cap f) (hn : n ≤ 16384) (hcap : n ≤ cap) : Calls Tryz.prog 205 #[.slice (some ⟨g, 0, none⟩) n cap, .func (.func 207) #[] #[]] w (DlOut f n g cap w) := by
  have HI := Lib.hid (SIndex_in g n cap f w h hn)
  have HH := Lib.hid h
  have hcap' : (n : Int) ≤ (cap : Int) := by omega
  clear h
  go_enter Tryz.func205, Tryz.ntmps205
  go_wp2_with fail
  refine HI.out.mono ?_
  rintro e w1 ⟨hb1, ⟨k, hk, hall, hbad, rfl⟩ | ⟨hall, rfl⟩⟩
  · have HR1 := Lib.hid (show RowS g w1 n cap f from HH.out.keep hb1); have HB1 := Lib.hid (Tch.of_below (S := (· = g)) hb1); have HAL := Lib.hid hall; have HBD := Lib.hid hbad
    have hq : ((k : Int) == -1) = false := by rw [beq_eq_false_iff_ne]; omega
    clear hb1 hall hbad HI HH
    go_wp2_with fail
    go_loopw [5, 6] (fun i5 i6 wr => ∃ (j : Nat) (c : Nat → Slot), 0 < j ∧ j ≤ n ∧ i6 = .int .i64 j ∧ i5 = .int .i64 ((kept f j).length : Nat) ∧ (kept f j).length < j ∧ RowS g wr n cap c ∧ (∀ x, x < (kept f j).length → c x = atL (kept f j) x) ∧ (∀ x, j ≤ x → x < n → c x = f x) ∧ Tch (· = g) w wr) (fun _ i6 _ => (n - intOf i6).toNat)
    case atStart =>
      have hl : (kept f k).length = k := by rw [kept_all HAL.out]; simp
      refine ⟨k + 1, f, by omega, by omega, by go_num, by rw [kept_no HBD.out, hl], by rw [kept_no HBD.out, hl]; omega, HR1.out, fun x hx => ?_, fun _ _ _ => rfl, HB1.out⟩
      rw [kept_no HBD.out, hl] at hx
      rw [kept_no HBD.out, kept_all HAL.out]
      unfold atL
      simp [List.getD, hx]
    case round =>
      obtain ⟨j, c, hj0, hj, rfl, rfl, hlen, hR, hc1, hc2, ht⟩ := hrel
      obtain ⟨i, hi⟩ : ∃ i, (kept f j).length = i := ⟨_, rfl⟩
      rw [hi] at hlen hc1 ⊢
      have HR := Lib.hid hR; have HC1 := Lib.hid hc1; have HC2 := Lib.hid hc2; have HT := Lib.hid ht; have HIL := Lib.hid hi
      have hi0 : (0 : Int) ≤ (i : Int) := by omega
      have hin : (i : Int) ≤ (n : Int) := by omega
      have hic : (i : Int) ≤ (cap : Int) := by omega
      have hi1 : (i : Int) < (n : Int) := by omega
      clear hR hc1 hc2 ht hi
      by_cases hlt : j < n
      · have hl1 : (j : Int) < (n : Int) := by omega
        have hl0 : (0 : Int) ≤ (j : Int) := by omega
        have hcj : c j = f j := HC2.out j (Nat.le_refl _) hlt
        go_wp2_with (refine wpList_load_elem rfl 281 _ rfl HR.out (fun _ => rfl) j hlt rfl _ Tryz.underlying281 rfl slot_size ?_; rw [hcj]; dsimp only [slotL])
        obtain ⟨tb, htb⟩ : ∃ tb, wr.heap.size = tb := ⟨_, rfl⟩
        obtain ⟨w2, hw2⟩ : ∃ w2, wr.alloc (.cells #[.int .u8 ((f j).state : Int), .int .u32 (f j).id, .int .i64 (f j).v] 281) = w2 := ⟨_, rfl⟩
        have ha2 : Arr w2 tb 281 #[.int .u8 ((f j).state : Int), .int .u32 (f j).id, .int .i64 (f j).v] := by rw [← hw2, ← htb]; exact Arr.fresh wr _ _
        have hb2 : Below wr.heap.size wr w2 := by rw [← hw2]; exact ext_alloc (Below.refl _ _) _
        rw [hw2, htb]
        have HA2 := Lib.hid ha2; have HB2 := Lib.hid hb2
        clear hw2 ha2 hb2
        refine (bad_in (f j).state (f j).id (f j).v w2).mono ?_
        rintro e w3 ⟨rfl, hb3⟩
        have ha3 := HA2.out.keep hb3
        have z0 : w3.cell? ⟨tb, 0, none⟩ = some (.int .u8 ((f j).state : Int)) := ha3.cell 0
        have z1 : w3.cell? ⟨tb, 1, none⟩ = some (.int .u32 (f j).id) := ha3.cell 1
        have z2 : w3.cell? ⟨tb, 2, none⟩ = some (.int .i64 (f j).v) := ha3.cell 2
        have hb23 : Below wr.heap.size wr w3 := ext_trans HB2.out hb3
        have HR3 := Lib.hid (show RowS g w3 n cap c from HR.out.keep hb23); have HT3 := Lib.hid (HT.out.below hb23)
        clear ha3 hb23 hb3
        by_cases hst : (f j).state = 1
        · have hq : (((f j).state : Int) != 1) = false := by simp [hst]
          rw [hq]
          have HS1 := Lib.hid hst
          clear hst hq
          go_wp2_with (refine wpList_store_elem rfl 281 _ _ rfl HR3.out (fun _ => rfl) i (by omega) rfl (slotL (f j)) rfl rfl (slotL_one _) slot_size ?_; intro w5 hR5 hg5 hs5; have HR5 := Lib.hid hR5; have HG5 := Lib.hid hg5; clear hR5 hg5 hs5)
          go_roundw
          case rel =>
            have hk1 := kept_yes HS1.out
            have hl1 : (kept f (j + 1)).length = i + 1 := by rw [hk1, List.length_append, HIL.out]; rfl
            refine ⟨j + 1, setL c i (f j), by omega, by omega, by go_num, by rw [hl1]; go_num, by omega, ?_, fun x hx => ?_, fun x hx hxn => ?_, HT3.out.grown HG5.out (fun k e => by injection e with e; exact .inl e.symm)⟩
            · have h5 := HR5.out
              rwa [show setL (fun x => slotL (c x)) i (slotL (f j)) = fun x => slotL (setL c i (f j) x) from funext fun x => by unfold setL; split <;> rfl] at h5
            · rw [hl1] at hx
              rw [hk1]
              unfold atL
              by_cases hxi : x = i
              · subst hxi
                rw [setL_same]
                rw [List.getD, List.getElem?_append_right (by rw [HIL.out]; exact Nat.le_refl _), HIL.out, Nat.sub_self]
                rfl
              · rw [setL_other c (f j) hxi, HC1.out x (by omega)]
                unfold atL
                rw [List.getD, List.getD, List.getElem?_append_left (by rw [HIL.out]; omega)]
            · rw [setL_other c (f j) (by omega), HC2.out x (by omega) hxn]
          case measure => simp [intOf]; omega
        · have hq : (((f j).state : Int) != 1) = true := by simp; omega
          rw [hq]
          have HS1 := Lib.hid hst
          clear hst hq
          go_wp2_with fail
          go_roundw
          case rel =>
            have hk1 := kept_no HS1.out
            exact ⟨j + 1, c, by omega, by omega, by go_num, by rw [hk1, HIL.out], by rw [hk1, HIL.out]; omega, HR3.out, fun x hx => by rw [hk1, HIL.out] at hx; rw [hk1]; exact HC1.out x hx, fun x hx hxn => HC2.out x (by omega) hxn, HT3.out⟩
          case measure => simp [intOf]; omega
      · have hl1 : ¬ (j : Int) < (n : Int) := by omega
        obtain rfl : j = n := by omega
        have hci : (i : Int) ≤ (j : Int) := by omega
        go_wp2_with (refine wpList_clear_tail rfl _ 276 rfl 281 (.agg #[.int .u8 0, .int .u32 0, .int .i64 0]) 3 j i g cap (fun x => slotL (c x)) Tryz.underlying276 slot_zero rfl (by intro v hv; simp [Value.cells] at hv; rcases hv with rfl | rfl | rfl <;> rfl) _ _ _ rfl rfl (fun _ => rfl) HR.out (fun _ => rfl) (by omega) ?_; intro w5 hR5 hg5 hs5; have HR5 := Lib.hid hR5; have HG5 := Lib.hid hg5; clear hR5 hg5 hs5)
        go_ret
        refine ⟨by rw [HIL.out]; rfl, ?_, HT.out.grown HG5.out (fun k e => by injection e with e; exact .inl e.symm)⟩
        rw [HIL.out]
        exact RowS.congr HR5.out (fun x hx => HC1.out x hx)
  · have HK := Lib.hid (show kept f n = (List.range n).map f from kept_all hall)
    have hl : (kept f n).length = n := by rw [HK.out]; simp
    have HF := Lib.hid (show DlOut f n g cap w (.returned (.slice (some ⟨g, 0, none⟩) n cap)) w1 from ⟨by rw [hl], by rw [hl]; exact RowS.congr (HH.out.keep hb1) (fun i hi => by rw [HK.out]; unfold atL; simp [List.getD, hi]), Tch.of_below hb1⟩)
    clear hall hb1 HI HH hl
    go_wp2_with fail
    go_ret
    exact HF.out

end Go.Proofs.YtbnkanehjnepbaaGreatDoor.Idx
end

/- Layer 15: the order of the index's items: two of them compared. -/
section
set_option linter.unusedVariables false
set_option linter.unusedSimpArgs false
namespace Go.Proofs.YtbnkanehjnepbaaGreatDoor.Idx
open Go.RowKit Go.Sort

-- cmp.isNaN, cmp.Compare
set_option maxRecDepth 100000 in
set_option maxHeartbeats 1000000 in
theorem isNaN_in (x : Int) (W : World) : Calls Tryz.prog 238 #[.int .u32 x] W fun e w' => e = .returned (.bool false) ∧ w' = W := by
  go_enter Tryz.func238, Tryz.ntmps238
  go_wp2_with fail
  go_ret
  exact ⟨by simp, rfl⟩
set_option maxRecDepth 100000 in
set_option maxHeartbeats 1000000 in
theorem Compare_in (x y : Int) (W : World) : Calls Tryz.prog 210 #[.int .u32 x, .int .u32 y] W fun e w' => e = .returned (.int .i64 (Lib.compareInt x y)) ∧ w' = W := by
  unfold Lib.compareInt
  by_cases h1 : x < y
  · rw [if_pos h1]
    go_enter Tryz.func210, Tryz.ntmps210
    go_wp2_with (first | (go_at_call 238; refine (isNaN_in _ _).mono ?_; rintro e w' ⟨rfl, rfl⟩))
    go_ret
    exact ⟨rfl, rfl⟩
  · rw [if_neg h1]
    by_cases h2 : x > y
    · rw [if_pos h2]
      have h3 : y < x := h2
      go_enter Tryz.func210, Tryz.ntmps210
      go_wp2_with (first | (go_at_call 238; refine (isNaN_in _ _).mono ?_; rintro e w' ⟨rfl, rfl⟩))
      go_ret
      exact ⟨rfl, rfl⟩
    · rw [if_neg h2]
      have h3 : ¬ y < x := h2
      go_enter Tryz.func210, Tryz.ntmps210
      go_wp2_with (first | (go_at_call 238; refine (isNaN_in _ _).mono ?_; rintro e w' ⟨rfl, rfl⟩))
      go_ret
      exact ⟨rfl, rfl⟩
def cfS (x y : Slot) : Int := Lib.compareInt x.id y.id
set_option maxRecDepth 100000 in
set_option maxHeartbeats 1000000 in
theorem cmp_in (x y : Slot) (W : World) : Calls Tryz.prog 209 #[.agg (slotL x).toArray, .agg (slotL y).toArray] W fun e w' => e = .returned (.int .i64 (cfS x y)) ∧ ∃ q os', w' = grow (W.drewN q) os' := by
  obtain ⟨r, hr⟩ : ∃ r, Lib.compareInt x.id y.id = r := ⟨_, rfl⟩
  have HC := Lib.hid (fun W' => Compare_in x.id y.id W')
  unfold cfS
  rw [hr] at HC ⊢
  clear hr
  unfold slotL
  go_enter Tryz.func209, Tryz.ntmps209
  go_wp2_with fail
  refine (HC.out _).mono ?_
  rintro e w2 ⟨rfl, hw⟩
  rw [hw]
  clear hw w2
  go_wp2_with fail
  go_ret
  exact ⟨rfl, 0, _, by rw [alloc_eq_grow, alloc_eq_grow, grow_grow]; rfl⟩

end Go.Proofs.YtbnkanehjnepbaaGreatDoor.Idx
end

/- DERIVED: THE SHELF's CONTRACTS AT THIS DUMP, IN PLAIN WORDS (tools/lay-plain.mjs out of 'YtbnkanehjnepbaaGreatDoorSortLay.lean', which tools/lay-shelf.mjs wrote): THE SAME DECLARATIONS UNDER THE SAME NAMES: 'import', 'namespace', 'open', 'def', 'theorem' AND NOTHING ELSE: no command of the shelf's:  -/
section
namespace Go.Proofs
open Go.Shelf
def Tryz.sortSlots_ren : Go.Shelf.Ren := ⟨fun | 6 => 208 | 15 => 237 | 14 => 236 | 28 => 256 | 29 => 257 | 20 => 248 | 21 => 249 | 22 => 250 | 23 => 251 | 24 => 252 | 25 => 253 | 26 => 254 | 27 => 255 | 46 => 261 | 47 => 262 | 48 => 263 | 49 => 264 | 50 => 265 | 57 => 266 | n => n, fun | 22 => 276 | 24 => 281 | 25 => 332 | 3 => 3 | 39 => 308 | 0 => 0 | 53 => 75 | 55 => 30 | 4 => 4 | 46 => 361 | 45 => 360 | 50 => 344 | 5 => 5 | 9 => 9 | 66 => 370 | 70 => 373 | 76 => 375 | 77 => 376 | n => n, fun | n => n⟩
theorem Tryz.sortSlots : Go.Proofs.SlLaysF0.n6 Tryz.prog Tryz.sortSlots_ren := {
  mixed := by kernel_rfl
  f6 := ⟨Tryz.f208.name, by decide, Tryz.func208.trans (congrArg some (by kernel_rfl))⟩
  f14 := ⟨Tryz.f236.name, by decide, Tryz.func236.trans (congrArg some (by kernel_rfl))⟩
  f15 := Tryz.func237.trans (congrArg some (by kernel_rfl))
  f20 := ⟨Tryz.f248.name, by decide, Tryz.func248.trans (congrArg some (by kernel_rfl))⟩
  f21 := ⟨Tryz.f249.name, by decide, Tryz.func249.trans (congrArg some (by kernel_rfl))⟩
  f22 := ⟨Tryz.f250.name, by decide, Tryz.func250.trans (congrArg some (by kernel_rfl))⟩
  f23 := ⟨Tryz.f251.name, by decide, Tryz.func251.trans (congrArg some (by kernel_rfl))⟩
  f24 := ⟨Tryz.f252.name, by decide, Tryz.func252.trans (congrArg some (by kernel_rfl))⟩
  f25 := ⟨Tryz.f253.name, by decide, Tryz.func253.trans (congrArg some (by kernel_rfl))⟩
  f26 := ⟨Tryz.f254.name, by decide, Tryz.func254.trans (congrArg some (by kernel_rfl))⟩
  f27 := ⟨Tryz.f255.name, by decide, Tryz.func255.trans (congrArg some (by kernel_rfl))⟩
  f28 := Tryz.func256.trans (congrArg some (by kernel_rfl))
  f29 := Tryz.func257.trans (congrArg some (by kernel_rfl))
  f46 := ⟨Tryz.f261.name, by decide, Tryz.func261.trans (congrArg some (by kernel_rfl))⟩
  f47 := Tryz.func262.trans (congrArg some (by kernel_rfl))
  f48 := Tryz.func263.trans (congrArg some (by kernel_rfl))
  f49 := ⟨Tryz.f264.name, by decide, Tryz.func264.trans (congrArg some (by kernel_rfl))⟩
  f50 := ⟨Tryz.f265.name, by decide, Tryz.func265.trans (congrArg some (by kernel_rfl))⟩
  f57 := ⟨Tryz.f266.name, by decide, Tryz.func266.trans (congrArg some (by kernel_rfl))⟩
  t0 := Tryz.underlying0
  a0 := Tryz.isAgg0
  z0 := Tryz.sizeOf0
  v0 := Tryz.zeroValue0
  t3 := Tryz.underlying3
  a3 := Tryz.isAgg3
  z3 := Tryz.sizeOf3
  v3 := Tryz.zeroValue3
  t4 := Tryz.underlying4
  a4 := Tryz.isAgg4
  z4 := Tryz.sizeOf4
  v4 := Tryz.zeroValue4
  t5 := Tryz.underlying5
  a5 := Tryz.isAgg5
  z5 := Tryz.sizeOf5
  v5 := Tryz.zeroValue5
  t9 := Tryz.underlying9
  a9 := Tryz.isAgg9
  z9 := Tryz.sizeOf9
  v9 := Tryz.zeroValue9
  t22 := Tryz.underlying276
  a22 := Tryz.isAgg276
  z22 := Tryz.sizeOf276
  v22 := Tryz.zeroValue276
  t25 := Tryz.underlying332
  a25 := Tryz.isAgg332
  z25 := Tryz.sizeOf332
  v25 := Tryz.zeroValue332
  t39 := Tryz.underlying308
  a39 := Tryz.isAgg308
  z39 := Tryz.sizeOf308
  v39 := Tryz.zeroValue308
  t45 := Tryz.underlying360
  a45 := Tryz.isAgg360
  z45 := Tryz.sizeOf360
  v45 := Tryz.zeroValue360
  t46 := Tryz.underlying361
  a46 := Tryz.isAgg361
  z46 := Tryz.sizeOf361
  v46 := Tryz.zeroValue361
  t50 := Tryz.underlying344
  a50 := Tryz.isAgg344
  z50 := Tryz.sizeOf344
  v50 := Tryz.zeroValue344
  t53 := Tryz.underlying75
  a53 := Tryz.isAgg75
  z53 := Tryz.sizeOf75
  v53 := Tryz.zeroValue75
  t55 := Tryz.underlying30
  a55 := Tryz.isAgg30
  z55 := Tryz.sizeOf30
  v55 := Tryz.zeroValue30
  t66 := Tryz.underlying370
  a66 := Tryz.isAgg370
  z66 := Tryz.sizeOf370
  v66 := Tryz.zeroValue370
  t70 := Tryz.underlying373
  a70 := Tryz.isAgg373
  z70 := Tryz.sizeOf373
  v70 := Tryz.zeroValue373
  t76 := Tryz.underlying375
  a76 := Tryz.isAgg375
  z76 := Tryz.sizeOf375
  v76 := Tryz.zeroValue375
  t77 := Tryz.underlying376
  a77 := Tryz.isAgg376
  z77 := Tryz.sizeOf376
  v77 := Tryz.zeroValue376 }
end Go.Proofs
end

/- Layer 15: the order of the index's items: the library's sort at slots. -/
section
set_option linter.unusedVariables false
set_option linter.unusedSimpArgs false
namespace Go.Proofs.YtbnkanehjnepbaaGreatDoor.Idx
open Go.RowKit Go.Sort Go.Shelf

section
variable {α : Type} [Inhabited α] {enc : α → List Value} {k : Nat} {S : Nat → Prop} {w : World} {e : TypeId} {g cap : Nat} {d : Array α}
theorem flatK_list (hk : ∀ x, (enc x).length = k) (d : Array α) : (flatK enc k d).toList = flat (fun i => enc d[i]!) d.size := by
  apply List.ext_getElem?
  intro t
  have hf := flat_length (c := fun i => enc d[i]!) (sz := k) (fun i => hk _) d.size
  rcases Nat.lt_or_ge t (d.size * k) with ht | ht
  · have hk0 : 0 < k := by rcases Nat.eq_zero_or_pos k with h0 | h0; rw [h0] at ht; simp at ht; exact h0
    have a1 : t / k < d.size := (Nat.div_lt_iff_lt_mul hk0).2 ht
    have a2 : t % k < k := Nat.mod_lt _ hk0
    have a3 : t / k * k + t % k = t := by rw [Nat.mul_comm]; exact Nat.div_add_mod t k
    have h2 : (flat (fun i => enc d[i]!) d.size)[t]? = (enc d[t / k]!)[t % k]? := by
      conv => lhs; rw [← a3]
      exact flat_get (fun i => hk _) a1 a2
    have hs : t < (flatK enc k d).size := by rw [size_flatK]; exact ht
    have h3 := get_flatK enc k d t ht
    rw [getElem!_pos _ t hs] at h3
    rw [h2, Array.getElem?_toList, Array.getElem?_eq_getElem hs, h3]
    rw [List.getElem?_eq_getElem (by rw [hk]; exact a2), getElem!_pos _ _ (by rw [hk]; exact a2)]
  · rw [List.getElem?_eq_none (by simp [size_flatK]; exact ht), List.getElem?_eq_none (by omega)]
theorem row_cur (h : RowIn S w e k (.slice (some ⟨g, 0, none⟩) d.size cap) d.size (fun i => enc d[i]!)) : ∃ cur, w.heap[g]? = some (.cells cur e (0, 0)) ∧ d.size ≤ cap ∧ cap ≤ maxLen ∧ cur.size = cap * k ∧ cur.toList.take (d.size * k) = flat (fun i => enc d[i]!) d.size := by
  rcases h.own.2 with ⟨hv, _⟩ | ⟨g', cap', cur, hv, hb, hh, h1, h2, h3, h4⟩
  · cases hv
  · injection hv with e1 _ e2
    injection e1 with e1
    injection e1 with e1
    subst e1 e2
    exact ⟨cur, hh, h1, h2, h3, h4⟩
theorem row_holds (hk : ∀ x, (enc x).length = k) (h : RowIn S w e k (.slice (some ⟨g, 0, none⟩) d.size cap) d.size (fun i => enc d[i]!)) : HoldsK enc k w g 0 d := by
  obtain ⟨cur, hh, h1, h2, h3, h4⟩ := row_cur h
  intro j hj
  have hj' : j < d.size * k := by rwa [size_flatK] at hj
  rw [← flatK_list hk] at h4
  have h5 : (cur.toList.take (d.size * k))[j]? = (flatK enc k d).toList[j]? := by rw [h4]
  rw [List.getElem?_take, if_pos hj', Array.getElem?_toList, Array.getElem?_toList, Array.getElem?_eq_getElem hj] at h5
  rw [getElem!_pos _ j hj, Nat.zero_add]
  refine ⟨by simp only [World.cell?, hh]; exact h5, by simp [World.frozen?, hh]⟩
theorem put_list (F cur : Array Value) (h : F.size ≤ cur.size) : (putCells id 0 F cur).toList.take F.size = F.toList := by
  apply List.ext_getElem?
  intro t
  rw [List.getElem?_take]
  split
  · rename_i ht
    rw [Array.getElem?_toList, Array.getElem?_toList]
    simp only [putCells, Array.getElem?_mapIdx]
    rw [Array.getElem?_eq_getElem (show t < cur.size by omega), Option.map_some, if_pos ⟨Nat.zero_le _, by omega⟩, Nat.sub_zero, getElem!_pos _ t ht, Array.getElem?_eq_getElem ht]
    rfl
  · rw [List.getElem?_eq_none (by simp; omega)]
theorem row_sorted (hk : ∀ x, (enc x).length = k) (h : RowIn S w e k (.slice (some ⟨g, 0, none⟩) d.size cap) d.size (fun i => enc d[i]!)) (d' : Array α) (hs : d'.size = d.size) (m : Nat) (os : Array Obj) : RowIn S (sortWorldK enc k w g 0 m d' os) e k (.slice (some ⟨g, 0, none⟩) d.size cap) d.size (fun i => enc d'[i]!) := by
  obtain ⟨cur, hh, h1, h2, h3, h4⟩ := row_cur h
  have hg : g < w.heap.size := (Array.getElem?_eq_some_iff.1 hh).1
  have hF : (flatK enc k d').size = d.size * k := by rw [size_flatK, hs]
  refine ⟨⟨flat_length (fun i => hk _) _, .inr ⟨g, cap, putCells id 0 (flatK enc k d') cur, rfl, Nat.zero_le _, ?_, h1, h2, by rw [← h3]; simp [putCells], ?_⟩⟩, fun b hb => h.block b hb⟩
  · have e1 : (sortWorldK enc k w g 0 m d' os).heap[g]? = (putRowK enc k (Sort.ahead w m) g 0 d').heap[g]? := heap_grow_old _ os (by rw [size_putRowK]; exact hg)
    rw [e1]
    simp only [putRowK, putRow, mapBlock, Array.getElem?_modify, if_pos, show (Sort.ahead w m).heap = w.heap from rfl, hh, Option.map_some, onCells]
  · rw [← hF, put_list _ _ (by rw [hF, h3]; exact Nat.mul_le_mul_right _ h1), flatK_list hk, hs]
theorem sort_tch (w : World) (g m : Nat) (d' : Array α) (os : Array Obj) : Tch (· = g) w (sortWorldK enc k w g 0 m d' os) where
  os := rfl
  tape := rfl
  output := rfl
  size := by unfold sortWorldK; rw [size_grow, size_putRowK]; exact Nat.le_add_right _ _
  block b hb hne := by
    have e1 : (sortWorldK enc k w g 0 m d' os).heap[b]? = (putRowK enc k (Sort.ahead w m) g 0 d').heap[b]? := heap_grow_old _ os (by rw [size_putRowK]; exact hb)
    rw [e1]
    simp only [putRowK, putRow, mapBlock, Array.getElem?_modify, show (Sort.ahead w m).heap = w.heap from rfl]
    rw [if_neg (fun e => hne e.symm)]
end

theorem ltS (x y : Slot) : ltOf cfS x y = decide (x.id < y.id) := by
  unfold ltOf cfS Lib.compareInt
  by_cases h1 : x.id < y.id
  · simp [h1]
  · by_cases h2 : y.id < x.id
    · simp [h1, h2]
    · simp [h1, h2]
theorem swoS : SWO (ltOf cfS) where
  irrefl x := by rw [ltS]; simp
  trans x y z h1 h2 := by rw [ltS] at *; simp at *; omega
  ntrans x y z h1 h2 := by rw [ltS] at *; simp at *; omega
def StOut (g : Nat) (l : List Slot) (cap : Nat) (w : World) (e : Ending) (w' : World) : Prop := e = .returned (.tuple #[]) ∧ ∃ l' : List Slot, l'.Perm l ∧ l'.Pairwise (fun x y => x.id ≤ y.id) ∧ RowS g w' l.length cap (atL l') ∧ Tch (· = g) w w'
set_option maxRecDepth 100000 in
set_option maxHeartbeats 2000000 in
theorem sort_in (g cap : Nat) (l : List Slot) (w : World) (h : RowS g w l.length cap (atL l)) (hl : l.length ≤ 16384) : Calls Tryz.prog 208 #[.slice (some ⟨g, 0, none⟩) l.length cap, .func (.func 209) #[] #[]] w (StOut g l cap w) := by
  letI : Inhabited Slot := ⟨Slot.none⟩
  have hat : ∀ (m : List Slot) (i : Nat), m.toArray[i]! = atL m i := fun m i => by
    unfold atL
    rw [Array.getElem!_eq_getD, Array.getD_eq_getD_getElem?, List.getElem?_toArray, List.getD_eq_getElem?_getD]
    rfl
  have hg : g < w.heap.size := by obtain ⟨cur, h1, _⟩ := h.cells_at; exact (Array.getElem?_eq_some_iff.1 h1).1
  have hrow : RowIn (fun k => k = g) w 281 3 (.slice (some ⟨g, 0, none⟩) l.toArray.size cap) l.toArray.size (fun i => slotL l.toArray[i]!) := by
    simp only [hat, List.size_toArray]
    exact h
  have hcmp : CmpLays Tryz.prog 209 #[] slotL 3 cfS g 0 l.toArray.size w := fun _ _ _ _ x y => cmp_in x y _
  have eg : ∀ args w, (callFunc 209 args).run Tryz.prog w = .ok (.enter 209 args) w := enters_of Tryz.func209 (by kernel_rfl) rfl
  have H := AnyQ.slices_SortFunc Tryz.sortSlots 3 Tryz.isAgg281 Tryz.sizeOf281 slotL slotL_len slotL_one cfS swoS 209 #[] g 0 cap l.toArray w eg hcmp (row_holds slotL_len hrow) hg (by simp; omega)
  refine Calls.mono H ?_
  rintro e w' ⟨rfl, d', m, os, hp, hs, rfl⟩
  refine ⟨rfl, d'.toList, ?_, ?_, ?_, sort_tch w g m d' os⟩
  · have h3 := hp.2.2
    rw [← hp.1] at h3
    rw [show d'.extract 0 d'.size = d' by simp] at h3
    rw [hp.1, show l.toArray.extract 0 l.toArray.size = l.toArray by simp] at h3
    exact h3
  · rw [List.pairwise_iff_getElem]
    intro i j hi hj hij
    have hj' : j < l.toArray.size := by rw [← hp.1]; simpa using hj
    have h4 := hs i j (Nat.zero_le _) hij hj'
    rw [ltS, getElem!_pos _ j (by simpa using hj), getElem!_pos _ i (by simpa using hi)] at h4
    simp only [decide_eq_false_iff_not] at h4
    simp only [Array.getElem_toList]
    omega
  · have h5 := row_sorted slotL_len hrow d' hp.1 m os
    simp only [List.size_toArray] at h5
    have e : (fun i => slotL d'[i]!) = fun i => slotL (atL d'.toList i) := funext fun i => by rw [← hat d'.toList i]
    rw [e] at h5
    exact h5

end Go.Proofs.YtbnkanehjnepbaaGreatDoor.Idx
end

/- Layer 15: the index's All: its iterator. -/
section
set_option linter.unusedVariables false
set_option linter.unusedSimpArgs false
namespace Go.Proofs.YtbnkanehjnepbaaGreatDoor.Idx
open Go.RowKit

def encS (x : Slot) : Array Value := #[.int .u32 x.id, .int .i64 x.v]
def KpA (lb g : Nat) (A B : World) : Prop := B.heap[lb]? = A.heap[lb]? ∧ B.heap[g]? = A.heap[g]?
/-- what the iterator reads: the list in the block g, or none -/
structure AllAt (W : World) (lb g : Nat) (l : List Slot) : Prop where
  cell : ∃ cap, Arr W lb 276 #[.slice (some ⟨g, 0, none⟩) l.length cap] ∧ RowS g W l.length cap (atL l)
  lt : g < W.heap.size
theorem AllAt.same {W W' : World} {lb g : Nat} {l : List Slot} (h : AllAt W lb g l) (hz : W.heap.size ≤ W'.heap.size) (h1 : W'.heap[lb]? = W.heap[lb]?) (h2 : W'.heap[g]? = W.heap[g]?) : AllAt W' lb g l := by
  obtain ⟨cap, ha, hr⟩ := h.cell
  exact ⟨⟨cap, h1.trans ha, hr.same fun k hk _ => by rw [show k = g from hk]; exact h2⟩, Nat.lt_of_lt_of_le h.lt hz⟩
theorem AllAt.keep {W W' : World} {lb g : Nat} {l : List Slot} (h : AllAt W lb g l) (hb : Below W.heap.size W W') : AllAt W' lb g l := by
  obtain ⟨cap, ha, hr⟩ := h.cell
  exact h.same hb.size (hb.block _ ha.lt) (hb.block _ h.lt)

set_option maxRecDepth 100000 in
set_option maxHeartbeats 4000000 in
theorem All1_in (n : Nat) (hn : 2 ≤ n) (y lb g : Nat) (l : List Slot) (hl : l.length ≤ 16384) (J Jx : List Slot → World → Prop) (W : World) (hJ : AbidesFrom W.heap.size J)
    (hY : ∀ pre x W1, x ∈ l → J pre W1 → pre.length < l.length → YieldAt Fence.wide (n - 1) Tryz.prog y (encS x) W1 fun e W' =>
      (e = .returned (.bool true) ∧ J (pre ++ [x]) W' ∧ KpA lb g W1 W') ∨ (e = .returned (.bool false) ∧ Jx (pre ++ [x]) W'))
    (hA : AllAt W lb g l) (h0 : J [] W) :
    CallsIn Fence.wide n Tryz.prog 171 #[.func (.yield y) #[] #[], .pointer (some ⟨lb, 0, none⟩)] W fun e W' => (∃ v, e = .returned v) ∧
      ((∃ xs : List Slot, xs = l ∧ J xs W') ∨ (∃ pre : List Slot, pre <+: l ∧ Jx pre W')) := by
  obtain ⟨cap, hAr, hRw⟩ := hA.cell
  have x0 : W.cell? ⟨lb, 0, none⟩ = some (.slice (some ⟨g, 0, none⟩) l.length cap) := hAr.cell 0
  refine callsIn_of_wp Tryz.func171 rfl trivial ?_ rfl
  simp only [Tryz.ntmps171, List.size_toArray, List.length_cons, List.length_nil, Nat.reduceAdd, Nat.reduceSub, Array.replicate_succ, Array.replicate_zero, List.push_toArray, List.append_toArray, List.nil_append, List.cons_append]
  gi_wp2
  gi_loopw [7] (fun p wr => ∃ j : Nat, j ≤ l.length ∧ p = .int .i64 j ∧ J (l.take j) wr ∧ RowS g wr l.length cap (atL l)) (fun p _ => (l.length - intOf p).toNat)
  case atStart =>
    exact ⟨0, Nat.zero_le _, rfl, h0, hRw⟩
  case round =>
    obtain ⟨j, hj, rfl, hJj, hR⟩ := hrel
    by_cases hlt : j < l.length
    · have hl1 : (j : Int) < (l.length : Int) := by omega
      have hl0 : (0 : Int) ≤ (j : Int) := by omega
      obtain ⟨s, hs⟩ : ∃ s, atL l j = s := ⟨_, rfl⟩
      have hrg := hR.range (fun _ => rfl) hlt
      rw [hs] at hrg
      have r0 : wr.cell? ⟨g, j * 3, none⟩ = some (.int .u8 (s.state : Int)) := hrg 0 _ rfl
      have r1 : wr.cell? ⟨g, j * 3 + 1, none⟩ = some (.int .u32 s.id) := hrg 1 _ rfl
      have r2 : wr.cell? ⟨g, j * 3 + 2, none⟩ = some (.int .i64 s.v) := hrg 2 _ rfl
      have hsl : l.take (j + 1) = l.take j ++ [s] := by
        rw [List.take_succ_eq_append_getElem hlt, ← hs]
        unfold atL
        rw [List.getD, List.getElem?_eq_getElem hlt]
        rfl
      obtain ⟨w2, hw2⟩ : ∃ w2, wr.alloc (.cells #[.int .u8 (s.state : Int), .int .u32 s.id, .int .i64 s.v] 281) = w2 := ⟨_, rfl⟩
      have hb2 : Below wr.heap.size wr w2 := by rw [← hw2]; exact ext_alloc (Below.refl _ _) _
      have hJ2 : J (l.take j) w2 := hJ _ wr w2 none hJj hb2.none (fun r e => by cases e)
      have hR2 : RowS g w2 l.length cap (atL l) := hR.keep hb2
      have hlen : (l.take j).length < l.length := by rw [List.length_take]; omega
      obtain ⟨fn, tmps, assign, body, hy, hYR⟩ := hY (l.take j) s w2 (by rw [← hs]; unfold atL; rw [List.getD, List.getElem?_eq_getElem hlt]; exact List.getElem_mem _) hJ2 hlen
      dsimp only [encS] at hy
      have ha2 : Arr w2 wr.heap.size 281 #[.int .u8 (s.state : Int), .int .u32 s.id, .int .i64 s.v] := by rw [← hw2]; exact Arr.fresh wr _ _
      have q1 : w2.cell? ⟨wr.heap.size, 1, none⟩ = some (.int .u32 s.id) := ha2.cell 1
      have q2 : w2.cell? ⟨wr.heap.size, 2, none⟩ = some (.int .i64 s.v) := ha2.cell 2
      gi_wp2
      refine ⟨fun h => (nomatch h), hYR.mono ?_⟩
      rintro e W3 (⟨rfl, hJ3, hk3⟩ | ⟨rfl, hJx3⟩)
      · have hR3 : RowS g W3 l.length cap (atL l) := hR2.same fun k hk _ => by rw [show k = g from hk]; exact hk3.2
        gi_wp2
        go_roundw
        case rel => exact ⟨j + 1, by omega, by go_num, by rw [hsl]; exact hJ3, hR3⟩
        case measure => simp [intOf]; omega
      · gi_wp2
        refine bodyPost_ret (results_none rfl _ _ _) rfl ?_
        exact ⟨⟨_, rfl⟩, .inr ⟨l.take j ++ [s], by rw [← hsl]; exact List.take_prefix _ _, hJx3⟩⟩
    · have hl1 : ¬ (j : Int) < (l.length : Int) := by omega
      obtain rfl : j = l.length := by omega
      gi_wp2
      go_end0
      rw [List.take_length] at hJj
      exact ⟨⟨_, rfl⟩, .inl hJj⟩

end Go.Proofs.YtbnkanehjnepbaaGreatDoor.Idx
end

/- Layer 15: the index's items, in their order; All. -/
section
set_option linter.unusedVariables false
set_option linter.unusedSimpArgs false
namespace Go.Proofs.YtbnkanehjnepbaaGreatDoor.Idx
open Go.RowKit

def ItOut (f : Nat → Slot) (n : Nat) (w : World) (e : Ending) (w' : World) : Prop := ∃ (g cap : Nat) (l : List Slot), e = .returned (.slice (some ⟨g, 0, none⟩) l.length cap) ∧ l.Perm (kept f n) ∧ l.Pairwise (fun x y => x.id ≤ y.id) ∧ RowS g w' l.length cap (atL l) ∧ w.heap.size ≤ g ∧ Below w.heap.size w w'
set_option maxRecDepth 100000 in
set_option maxHeartbeats 2000000 in
theorem items_in (p g n : Nat) (most len graves steps : Int) (f : Nat → Slot) (w : World) (h : IdxAt w p g n most len graves steps f) (hn : 1 ≤ n ∧ n ≤ 16384) : Calls Tryz.prog 170 #[.pointer (some ⟨p, 0, none⟩)] w (ItOut f n w) := by
  have x0 : w.cell? ⟨p, 0, none⟩ = some (.slice (some ⟨g, 0, none⟩) n n) := h.own.cell 0
  have HC := Lib.hid (SClone_in g n n f w h.rows hn)
  have HN := Lib.hid hn
  clear h hn
  go_enter Tryz.func170, Tryz.ntmps170
  go_wp2_with fail
  refine HC.out.mono ?_
  rintro e w1 ⟨g1, cap, rfl, hr1, hb1⟩
  have hg1 : w.heap.size ≤ g1 := hr1.block g1 rfl
  have hR1 : RowS g1 w1 n cap f := ⟨hr1.own, fun k hk => by injection hk with hk; exact hk.symm⟩
  have hcap : n ≤ cap := by obtain ⟨g', cap', hv, _, h1, _⟩ := hr1.form HN.out.1; injection hv with _ _ e2; omega
  have HG1 := Lib.hid hg1; have HB1 := Lib.hid hb1
  have HD := Lib.hid (SDelete_in g1 n cap f w1 hR1 HN.out.2 hcap)
  clear hr1 hg1 hR1 hcap hb1 HC
  go_wp2_with fail
  refine HD.out.mono ?_
  rintro e w2 ⟨rfl, hR2, ht2⟩
  have hkl := Nat.le_trans (kept_len f n) HN.out.2
  obtain ⟨m, hm⟩ : ∃ m, kept f n = m := ⟨_, rfl⟩
  rw [hm] at hR2 hkl ⊢
  have HM := Lib.hid hm
  have HS := Lib.hid (sort_in g1 cap m w2 hR2 hkl)
  have HB2 := Lib.hid (Tch.fresh ht2 HB1.out (fun k hk => by rw [show k = g1 from hk]; exact HG1.out))
  clear hm hR2 ht2 hkl HD
  go_wp2_with fail
  refine HS.out.mono ?_
  rintro e w3 ⟨rfl, l', hp, hs, hR3, ht3⟩
  have hb3 := Tch.fresh ht3 HB2.out (fun k hk => by rw [show k = g1 from hk]; exact HG1.out)
  have hl : l'.length = m.length := hp.length_eq
  rw [← hl] at hR3
  have HF := Lib.hid (show ItOut f n w (.returned (.slice (some ⟨g1, 0, none⟩) m.length cap)) w3 from ⟨g1, cap, l', by rw [hl], by rw [HM.out]; exact hp, hs, hR3, HG1.out, hb3⟩)
  clear hp hs hR3 ht3 hb3 hl HS
  go_wp2_with fail
  go_ret
  exact HF.out
theorem kept_mem {f : Nat → Slot} {x : Slot} : ∀ {n : Nat}, x ∈ kept f n ↔ ∃ i, i < n ∧ (f i).state = 1 ∧ f i = x := by
  intro n
  unfold kept
  simp only [List.mem_filter, List.mem_map, List.mem_range, decide_eq_true_eq]
  constructor
  · rintro ⟨⟨i, hi, rfl⟩, hs⟩; exact ⟨i, hi, hs, rfl⟩
  · rintro ⟨i, hi, hs, rfl⟩; exact ⟨⟨i, hi, rfl⟩, hs⟩
theorem kept_cnt (f : Nat → Slot) : ∀ n, (kept f n).length = cnt f 1 n
  | 0 => rfl
  | n + 1 => by
    rw [cnt]
    by_cases h : (f n).state = 1
    · rw [kept_yes h, List.length_append, kept_cnt f n, if_pos h]; rfl
    · rw [kept_no h, kept_cnt f n, if_neg h]; rfl
/-- a lists's pointer and All's iterator -/
def AlOut (f : Nat → Slot) (n : Nat) (w : World) (e : Ending) (w' : World) : Prop := ∃ (lb g : Nat) (l : List Slot), e = .returned (.func (.func 171) #[] #[.pointer (some ⟨lb, 0, none⟩)]) ∧ l.Perm (kept f n) ∧ l.Pairwise (fun x y => x.id ≤ y.id) ∧ AllAt w' lb g l ∧ w.heap.size ≤ lb ∧ w.heap.size ≤ g ∧ lb ≠ g ∧ Below w.heap.size w w'
set_option maxRecDepth 100000 in
set_option maxHeartbeats 2000000 in
theorem IAll_in (p g n : Nat) (most len graves steps : Int) (f : Nat → Slot) (w : World) (h : IdxAt w p g n most len graves steps f) (hn : 1 ≤ n ∧ n ≤ 16384) : Calls Tryz.prog 105 #[.pointer (some ⟨p, 0, none⟩)] w (AlOut f n w) := by
  have hown := h.own
  have HH := Lib.hid h
  have HN := Lib.hid hn
  clear h hn
  go_enter Tryz.func105, Tryz.ntmps105
  go_wp2_with fail
  obtain ⟨w1, hw1⟩ : ∃ w1, w.alloc (.cells #[.slice none 0 0] 276) = w1 := ⟨_, rfl⟩
  obtain ⟨lb, hlb⟩ : ∃ lb, w.heap.size = lb := ⟨_, rfl⟩
  have ha1 : Arr w1 lb 276 #[.slice none 0 0] := by rw [← hw1, ← hlb]; exact Arr.fresh w _ _
  have hb1 : Below w.heap.size w w1 := by rw [← hw1]; exact ext_alloc (Below.refl _ _) _
  have HA1 := Lib.hid ha1; have HB1 := Lib.hid hb1; have HI1 := Lib.hid (⟨hown.keep hb1, HH.out.rows.keep hb1, HH.out.apart⟩ : IdxAt w1 p g n most len graves steps f)
  rw [hw1, hlb]
  have HLB := Lib.hid hlb
  clear hw1 hlb ha1 hb1 hown
  refine (made_in p g n w1 (HI1.out.own.cell 0)).mono ?_
  rintro e w2 ⟨rfl, hw2⟩
  rw [hw2]
  clear hw2 w2
  go_wp2_with fail
  refine (items_in p g n most len graves steps f w1 HI1.out HN.out).mono ?_
  rintro e w2 ⟨g2, cap, l, rfl, hp, hs, hR, hg2, hb2⟩
  have ha2 := HA1.out.keep hb2
  obtain ⟨z0, z1⟩ : w2.cell? ⟨lb, 0, none⟩ = some (.slice none 0 0) ∧ w2.frozen? ⟨lb, 0, none⟩ = false := ⟨ha2.cell 0, ha2.mark 0⟩
  have hz1 := HB1.out.size
  have hlt1 := HA1.out.lt
  have hne : lb ≠ g2 := by omega
  have hA3 : AllAt (w2.setCell ⟨lb, 0, none⟩ (.slice (some ⟨g2, 0, none⟩) l.length cap)) lb g2 l := ⟨⟨cap, Arr.put ha2 0 _, hR.put (fun b hb => by injection hb with hb; rw [← hb]; exact hne) _⟩, by simpa using (own_lt hR.own rfl).1⟩
  have hb3 : Below w.heap.size w (w2.setCell ⟨lb, 0, none⟩ (.slice (some ⟨g2, 0, none⟩) l.length cap)) := (ext_trans HB1.out hb2).setCell (by simp; have := HLB.out; omega) _
  have HF := Lib.hid (show AlOut f n w (.returned (.func (.func 171) #[] #[.pointer (some ⟨lb, 0, none⟩)])) _ from ⟨lb, g2, l, rfl, hp, hs, hA3, by have := HLB.out; omega, by omega, hne, hb3⟩)
  clear hp hs hR hg2 hb2 ha2 hA3 hb3 hne hz1 hlt1
  go_wp2_with fail
  go_ret
  exact HF.out

end Go.Proofs.YtbnkanehjnepbaaGreatDoor.Idx
end

/- A drawn region in a round of a range over a function: what is shown outside of a round holds in it. No program in sight. -/
section
set_option linter.unusedVariables false
set_option linter.unusedSimpArgs false
namespace Go.Proofs.YtbnkanehjnepbaaGreatDoor
open Go.RowKit

section
variable {P : Program} {md : Region.Mode} {ops : Array Oper} {Q : Exit → Act → World → Prop} {l n : Nat}
theorem wpOpIn_round {i : Nat} {K K' : Act → World → Prop} {a : Act} {w : World} (hq : ¬ LetsOut Q) (hs : ∀ o, ops[i]? = some o → ∀ c, o.op ≠ .defer c) (hK : ∀ a w, K a w → K' a w)
    (h : wpOp P ops Q i K a w) : wpOpIn (Fence.wide.inRound l) n P ops Q i K' a w := by
  unfold wpOp at h
  unfold wpOpIn
  split at h
  · rename_i ho
    simp only [ho]
    exact hK _ _ h
  · rename_i o ho
    simp only [ho]
    split at h
    · rename_i hw
      rw [if_pos hw]
      rcases h with h | h
      · refine ⟨fun f _ => trivial, ?_⟩
        rw [Oper.semAt_eq _ _ _ (hs o ho)]
        unfold Oper.wp at h
        generalize (execOp a.eval o).run P w = r at h ⊢
        cases r with
        | ok x w' =>
          cases x <;> simp only [Oper.upon, Oper.uponIn] at h ⊢
          case value => exact hK _ _ h
          case skip => exact hK _ _ h
          case defer => exact hK _ _ h
          case enter =>
            refine ⟨fun hd => (nomatch hd), CallsIn.mono (CallsIn.inRound l (callsIn_wide.2 h)) ?_⟩
            intro e w'' he
            cases e
            · exact hK _ _ he
            · exact he
            · exact he
          case row =>
            refine ⟨fun hd => (nomatch hd), fun c cs _ => ?_⟩
            obtain ⟨v, w'', r, s⟩ := h c cs
            exact ⟨v, w'', hK _ _ r, stepsIn_wide.2 s⟩
        | halt x w' => cases x <;> simp only [Oper.upon, Oper.uponIn] at h ⊢ <;> exact h
      · exact absurd h.2 hq
    · rename_i hw
      rw [if_neg hw]
      exact ⟨fun f _ => trivial, hK _ _ h⟩
theorem wpAnyIn_round (hq : ¬ LetsOut Q) (hs : ∀ (i : Nat) (o : Oper), ops[i]? = some o → ∀ c, o.op ≠ .defer c) : ∀ (fuel : Nat) (listed : Array Bool) (a : Act) (w : World), wpAny P md ops Q fuel listed a w → wpAnyIn (Fence.wide.inRound l) n P md ops Q fuel listed a w
  | 0, _, _, _, h => h
  | fuel + 1, listed, a, w, h => ⟨h.1, fun i hi => wpOpIn_round hq (hs i) (fun a w => wpAnyIn_round hq hs fuel _ a w) (h.2 i hi)⟩
theorem wpIn_round_held {S : World → Prop} {id : Nat} {a : Act} {w : World} (hq : ¬ LetsOut Q) (hs : ops.toList.all (fun o => match o.op with | .defer _ => false | _ => true) = true) (hm : P.follows .mixedOrders = true) (hS : S w.drew)
    (h : S w.drew → wpAnyH P .any ops Q S ops.size (Array.replicate ops.size false) a w.drew) : (Code.region id ops true).wpIn (Fence.wide.inRound l) n P Q a w :=
  wpIn_region_any hm (wpAnyIn_round hq (fun i o ho c hc => by
    have h1 := List.all_eq_true.1 hs o (by rw [Array.mem_toList_iff]; exact Array.mem_of_getElem? ho)
    rw [hc] at h1
    cases h1) _ _ _ _ (wpAny_of_held _ _ _ _ (h hS)))
theorem tk_load {S : World → Prop} {fuel : Nat} {listed : Array Bool} {a : Act} {w : World} {oi : Oper} (i : Nat) (d : Option Tmp) (hS : S w) (ty : TypeId) (x : Operand) (b o : Nat) (cs : List Value) (ds : TypeDesc) (hR : ∀ w, S w → w.rangeAt b o cs)
    (hu : P.underlying ty = some ds) (hdr : ds.isRow = true) (hsz : (P.info? ty).map (·.size) = some cs.length)
    (h : wpAnyH P md ops Q S fuel (listed.setIfInBounds i true) (a.put d (.agg cs.toArray)) w)
    (hi : ops[i]? = some oi := by (simp only [List.getElem?_toArray, List.getElem?_cons_zero, List.getElem?_cons_succ]; exact rfl)) (ho : oi.op = .load ty x := by rfl) (hx : a.eval x = .pointer (some ⟨b, o, none⟩) := by rfl)
    (hs : Region.noSelect ops = true := by kernel_rfl) (hf : Region.free md ops listed i = true := by kernel_rfl) (hr : (Region.ready md ops listed).contains i = true := by kernel_rfl)
    (hQ : ∀ c a w, Q (.panic c) (a.put d (.agg cs.toArray)) w → Q (.panic c) a w := by exact (fun _ _ _ h => h)) (hd : oi.dst = d := by rfl) (hw : Region.wanted oi (yielded ops a.tmps) = true := by rfl) :
    wpAnyH P md ops Q S (fuel + 1) listed a w := by
  subst hd
  exact wpAnyH_take hi hs hf hr hQ (yieldsIf_load_mid hw ty x ho b o hx cs ds hR hu hdr hsz) hS h
end

end Go.Proofs.YtbnkanehjnepbaaGreatDoor
end

/- Lists that rise by a number: the same members, the same list. No program in sight. -/
section
set_option linter.unusedVariables false
set_option linter.unusedSimpArgs false
namespace Go.Proofs.YtbnkanehjnepbaaGreatDoor

section
variable {α : Type} (key : α → Int)
def Rises : List α → Prop
  | [] => True
  | x :: l => (∀ y ∈ l, key x < key y) ∧ Rises l
variable {key}
theorem Rises.of_pairwise : ∀ {l : List α}, l.Pairwise (fun x y => key x < key y) → Rises key l
  | [], _ => trivial
  | x :: l, h => by
    rw [List.pairwise_cons] at h
    exact ⟨h.1, Rises.of_pairwise h.2⟩
theorem Rises.ext : ∀ {l m : List α}, Rises key l → Rises key m → (∀ x, x ∈ l ↔ x ∈ m) → l = m
  | [], [], _, _, _ => rfl
  | [], y :: m, _, _, h => by have := (h y).2 (List.mem_cons_self ..); cases this
  | x :: l, [], _, _, h => by have := (h x).1 (List.mem_cons_self ..); cases this
  | x :: l, y :: m, hl, hm, h => by
    have hxy : x = y := by
      rcases List.mem_cons.1 ((h x).1 (List.mem_cons_self ..)) with e | hx
      · exact e
      · rcases List.mem_cons.1 ((h y).2 (List.mem_cons_self ..)) with e | hy
        · exact e.symm
        · have h1 := hl.1 y hy
          have h2 := hm.1 x hx
          omega
    subst hxy
    rw [Rises.ext hl.2 hm.2 fun z => ?_]
    constructor
    · intro hz
      rcases List.mem_cons.1 ((h z).1 (List.mem_cons_of_mem _ hz)) with e | hz'
      · subst e
        have := hl.1 z hz
        omega
      · exact hz'
    · intro hz
      rcases List.mem_cons.1 ((h z).2 (List.mem_cons_of_mem _ hz)) with e | hz'
      · subst e
        have := hm.1 z hz
        omega
      · exact hz'
end

end Go.Proofs.YtbnkanehjnepbaaGreatDoor
end

/- Layer 17: all bookings of a book, by rising ids: what stands in its table, its iterator as the range wants it. -/
section
set_option linter.unusedVariables false
set_option linter.unusedSimpArgs false
namespace Go.Proofs.YtbnkanehjnepbaaGreatDoor.Bk
open Go.RowKit Go.Shelf
open Go.Proofs.YtbnkanehjnepbaaGreatDoor.Bit (SetAt hasB)
open Go.Proofs.YtbnkanehjnepbaaGreatDoor.Idx (Slot kept kept_mem kept_cnt AllAt encS KpA AlOut All1_in IAll_in atL Tab)

theorem all_stops (n : Nat) (hn : 2 ≤ n) {V : Slot → Prop} (lb g : Nat) (l : List Slot) (hl : l.length ≤ 16384) (hV : ∀ x ∈ l, V x) (W0 : World) (hA : AllAt W0 lb g l) :
    SeqStopsK Fence.wide n Tryz.prog 171 #[.pointer (some ⟨lb, 0, none⟩)] (fun x : {x : Slot // V x} => encS x.1) (KpA lb g) (fun xs => xs.map (·.1) = l) (fun _ => True) l.length W0 := by
  intro y J Jx W hb hJ hJx hY h0
  refine CallsIn.mono (All1_in n hn y lb g l hl (fun pre W => ∃ p : List {x : Slot // V x}, p.map (·.1) = pre ∧ J p W) (fun pre W => ∃ p : List {x : Slot // V x}, p.map (·.1) = pre ∧ Jx p W) W ?_ ?_ (hA.keep hb) ⟨[], rfl, h0⟩) ?_
  · exact fun s A B row ⟨p, hp, hj⟩ hg hr => ⟨p, hp, hJ p A B row hj hg hr⟩
  · rintro pre x W1 hx ⟨p, rfl, hj⟩ hlt
    rw [List.length_map] at hlt
    obtain ⟨fn, tmps, assign, body, hy, hYR⟩ := hY p ⟨x, hV x hx⟩ W1 hj hlt
    refine ⟨fn, tmps, assign, body, hy, hYR.mono ?_⟩
    rintro e W' (⟨he, hj', hk⟩ | ⟨he, hj'⟩)
    · exact .inl ⟨he, ⟨p ++ [⟨x, hV x hx⟩], by simp, hj'⟩, hk⟩
    · exact .inr ⟨he, ⟨p ++ [⟨x, hV x hx⟩], by simp, hj'⟩⟩
  · rintro e W' ⟨he, ⟨xs, hx, p, hp, hj⟩ | ⟨pre, _, p, hp, hj⟩⟩
    · exact ⟨he, .inl ⟨p, hp.trans hx, hj⟩⟩
    · exact ⟨he, .inr ⟨p, trivial, hj⟩⟩
theorem kept_apart {f : Nat → Slot} {m : Nat} (hT : Tab f m) : ∀ j, j ≤ m → (kept f j).Pairwise fun x y => x.id ≠ y.id
  | 0, _ => List.Pairwise.nil
  | j + 1, hj => by
    by_cases hs : (f j).state = 1
    · rw [Idx.kept_yes hs, List.pairwise_append]
      refine ⟨kept_apart hT j (by omega), List.pairwise_singleton _ _, fun x hx y hy => ?_⟩
      rw [List.mem_singleton] at hy
      subst hy
      obtain ⟨i, hi, h1, rfl⟩ := kept_mem.1 hx
      intro he
      have := hT.uniq i j (by omega) (by omega) h1 hs he
      omega
    · rw [Idx.kept_no hs]
      exact kept_apart hT j (by omega)
/-- the table's items in their order are the book's bookings -/
theorem list_ext {S : Nat → Prop} {w : World} {b n codes : Nat} {group next clock : Int} {L : List Bkg} {q : Parts} (h : BookAt S w b n codes group next clock L q) (hr : L.Pairwise fun x y => x.id < y.id) {l : List Slot}
    (hp : l.Perm (kept q.f q.m)) (hs : l.Pairwise fun x y => x.id ≤ y.id) : l.map (fun s => q.sb s.v.toNat) = L ∧ ∀ s ∈ l, ∃ i : Nat, i < n ∧ s.v = (i : Int) := by
  have hT := h.comp.ids.tab
  have hof : ∀ s ∈ l, ∃ x ∈ L, s.id = x.id ∧ s.v = (x.seat : Int) := by
    intro s hs
    obtain ⟨j, hj, h1, rfl⟩ := kept_mem.1 (hp.mem_iff.1 hs)
    obtain ⟨x, hx, he⟩ := h.under j hj h1
    obtain ⟨j', hj', h1', he', hv'⟩ := h.listed x hx
    have := hT.uniq j j' hj hj' h1 h1' (by rw [he, he'])
    subst this
    exact ⟨x, hx, he, hv'⟩
  have hm : ∀ s ∈ l, (q.sb s.v.toNat).id = s.id := by
    intro s hs
    obtain ⟨x, hx, he, hv⟩ := hof s hs
    rw [hv, Int.toNat_natCast, (h.lies x hx).2, he]
  have hlt : l.Pairwise fun x y => x.id < y.id := by
    have h1 : l.Pairwise fun x y => x.id ≠ y.id := (List.Perm.pairwise_iff (fun {x y} hxy => hxy.symm) hp).2 (kept_apart hT _ (Nat.le_refl _))
    exact List.Pairwise.imp₂ (fun x y a b => by omega) hs h1
  refine ⟨?_, fun s hs => ?_⟩
  · refine Rises.ext (key := fun x : Bkg => x.id) (Rises.of_pairwise ?_) (Rises.of_pairwise hr) fun x => ?_
    · rw [List.pairwise_map]
      exact hlt.imp_of_mem (fun {x y} hx hy hxy => by rw [hm x hx, hm y hy]; exact hxy)
    · rw [List.mem_map]
      constructor
      · rintro ⟨s, hs, rfl⟩
        obtain ⟨x, hx, he, hv⟩ := hof s hs
        rw [hv, Int.toNat_natCast, (h.lies x hx).2]
        exact hx
      · intro hx
        obtain ⟨j, hj, h1, he, hv⟩ := h.listed x hx
        exact ⟨q.f j, hp.mem_iff.2 (kept_mem.2 ⟨j, hj, h1, rfl⟩), by rw [hv, Int.toNat_natCast, (h.lies x hx).2]⟩
  · obtain ⟨x, hx, he, hv⟩ := hof s hs
    exact ⟨x.seat, (h.lies x hx).1, hv⟩

end Go.Proofs.YtbnkanehjnepbaaGreatDoor.Bk
end

/- Layer 17: all bookings of a book, by rising ids: the walk. -/
section
set_option linter.unusedVariables false
set_option linter.unusedSimpArgs false
namespace Go.Proofs.YtbnkanehjnepbaaGreatDoor.Bk
open Go.RowKit Go.Shelf
open Go.Proofs.YtbnkanehjnepbaaGreatDoor.Bit (SetAt hasB)
open Go.Proofs.YtbnkanehjnepbaaGreatDoor.Idx (Slot kept kept_mem kept_cnt AllAt encS KpA AlOut All1_in IAll_in atL Tab)

attribute [local go_sem] Oper.semAt_some
abbrev BV (n : Nat) (s : Slot) : Prop := ∃ i : Nat, i < n ∧ s.v = (i : Int)
/-- the bookings of the slots that were met -/
def sbAt {n : Nat} (sb : Nat → Bkg) (pre : List {x : Slot // BV n x}) (i : Nat) : List Value := bkgL ((pre.map fun x => sb x.1.v.toNat).getD i ⟨0, 0, 0⟩)
theorem sbAt_snoc {n : Nat} (sb : Nat → Bkg) (pre : List {x : Slot // BV n x}) (x : {x : Slot // BV n x}) (y : Bkg) (h : sb x.1.v.toNat = y) : sbAt sb (pre ++ [x]) = setL (sbAt sb pre) pre.length (bkgL y) := by
  funext i
  unfold sbAt setL
  have hl : (pre.map fun x => sb x.1.v.toNat).length = pre.length := List.length_map ..
  rw [List.map_append]
  by_cases hi : i = pre.length
  · subst hi
    rw [if_pos rfl, List.getD_eq_getElem?_getD, List.getElem?_append_right (by omega), hl, Nat.sub_self, ← h]
    rfl
  · rw [if_neg hi]
    rcases Nat.lt_or_ge i pre.length with h1 | h1
    · rw [List.getD_eq_getElem?_getD, List.getElem?_append_left (by omega), ← List.getD_eq_getElem?_getD]
    · dsimp only; rw [List.getD_eq_getElem?_getD, List.getD_eq_getElem?_getD, List.getElem?_eq_none (by simp; omega), List.getElem?_eq_none (by omega)]
def LsOut (L : List Bkg) (w : World) (e : Ending) (w' : World) : Prop := ∃ v, e = .returned v ∧ RowIn (fun k => w.heap.size ≤ k) w' 90 3 v L.length (fun i => bkgL (L.getD i ⟨0, 0, 0⟩)) ∧ Below w.heap.size w w'
set_option maxRecDepth 100000 in
set_option maxHeartbeats 4000000 in
theorem list_in {S : Nat → Prop} {w : World} {b n codes : Nat} {group next clock : Int} {L : List Bkg} {q : Parts} (h : BookAt S w b n codes group next clock L q) (hr : L.Pairwise fun x y => x.id < y.id) : Calls Tryz.prog 51 #[.pointer (some ⟨b, 0, none⟩)] w (LsOut L w) := by
  have HH := Lib.hid h.comp
  obtain ⟨i0, hj0, hz0, hz1, hz2⟩ := info_parts bkg_info
  have HE := Lib.hid (show ∀ l : List Slot, l.Perm (kept q.f q.m) → (l.Pairwise fun x y => x.id ≤ y.id) → l.map (fun s => q.sb s.v.toNat) = L ∧ ∀ s ∈ l, BV n s from fun l hp hs => list_ext h hr hp hs)
  have HL := Lib.hid (show L.length ≤ codes from h.comp.ids.room.1)
  have HTH := Lib.hid (show ∀ W, Below w.heap.size w W → Calls Tryz.prog 49 #[.pointer (some ⟨b, 0, none⟩)] W (fun e w' => e = .returned (.bool true) ∧ w' = W) from fun W hW => there_in b true W ((h.comp.below hW).own.cell 3))
  have HAL := Lib.hid (show ∀ W, Below w.heap.size w W → Calls Tryz.prog 105 #[.pointer (some ⟨q.ip, 0, none⟩)] W (AlOut q.f q.m W) from fun W hW => by
    obtain ⟨st, hst⟩ := (h.comp.below hW).ids.lies
    have hrm := (h.comp.below hW).ids.room
    exact IAll_in _ _ _ _ _ _ _ _ _ hst ⟨by omega, hrm.2.2.2.2⟩)
  clear h hr
  refine (callsIn_wide (n := 9)).1 ?_
  refine callsIn_of_wp_marks Tryz.func51 rfl trivial ?_ rfl
  simp only [Tryz.ntmps51, List.size_toArray, List.length_cons, List.length_nil, Nat.reduceAdd, Nat.reduceSub, Array.replicate_succ, Array.replicate_zero, List.push_toArray, List.append_toArray, List.nil_append, List.cons_append]
  obtain ⟨w2, hw2⟩ : ∃ w2, (w.alloc (.cells #[.pointer (some ⟨b, 0, none⟩)] 62)).alloc (.cells #[.slice none 0 0] 36) = w2 := ⟨_, rfl⟩
  have a1 : Arr w2 w.heap.size 62 #[.pointer (some ⟨b, 0, none⟩)] := by rw [← hw2]; exact (Arr.fresh w _ _).alloc _
  have a2 : Arr w2 (w.heap.size + 1) 36 #[.slice none 0 0] := by rw [← hw2]; exact Arr.new (by simp)
  have hb2 : Below w.heap.size w w2 := by rw [← hw2]; exact ext_alloc (ext_alloc (Below.refl _ _) _) _
  have c1 : w2.cell? ⟨w.heap.size, 0, none⟩ = some (.pointer (some ⟨b, 0, none⟩)) := a1.cell 0
  have c2 : w2.cell? ⟨b, 7, none⟩ = some (.pointer (some ⟨q.ip, 0, none⟩)) := (HH.out.below hb2).own.cell 7
  have A1 := Lib.hid a1; have A2 := Lib.hid a2; have HB2 := Lib.hid hb2
  clear a1 a2 hb2
  gi_wp2_with (first | (refine ⟨trivial, ?_⟩; gi_at_call 49; refine (callsIn_wide.2 (HTH.out _ HB2.out)).mono ?_; rintro e w3 ⟨rfl, hw3⟩; rw [hw3]; clear hw3 w3) | (refine ⟨trivial, ?_⟩; gi_at_call 105; refine (callsIn_wide.2 (HAL.out _ HB2.out)).mono ?_; rintro e w3 ⟨lb, g, l, rfl, hp, hs, hA, hlb, hgb, hne, hb3⟩))
  have AW := Lib.hid (A1.out.keep hb3); have AO := Lib.hid (A2.out.keep hb3); have HB3 := Lib.hid (ext_trans HB2.out hb3); have HAA := Lib.hid hA
  have HLT := Lib.hid (show l.length ≤ 4096 from by
    have h1 := hp.length_eq
    have h2 := kept_cnt q.f q.m
    have h3 := HH.out.ids.full
    have h4 := HH.out.ids.room
    omega)
  obtain ⟨hEL, hEV⟩ := HE.out l hp hs
  have hg3 : g < w3.heap.size := hA.lt
  have hlb3 : lb < w3.heap.size := by obtain ⟨cp, h1, _⟩ := hA.cell; exact h1.lt
  obtain ⟨bb, hbb⟩ : ∃ bb, w.heap.size = bb := ⟨_, rfl⟩
  obtain ⟨ob, hob⟩ : ∃ ob, bb + 1 = ob := ⟨_, rfl⟩
  have hne1 : bb ≠ ob := by omega
  have hob3 : ob < w3.heap.size := by have := AO.out.lt; omega
  have hbb3 : bb < w3.heap.size := by omega
  have hlbo : lb ≠ ob := by have := A2.out.lt; omega
  have hgo : g ≠ ob := by have := A2.out.lt; omega
  rw [hbb] at AW AO A1 A2 ⊢
  rw [hob] at AO A2 ⊢
  have HBB := Lib.hid hbb; have HOB := Lib.hid hob
  clear hbb hob hp hs hA hb3 c1 c2 hw2 hlb hgb hne HTH HAL HE
  refine wpIn_rangeFunc_ownH (n := 9) rfl (by decide) (gf := 171) (lb := #[.pointer (some ⟨lb, 0, none⟩)]) rfl trivial (enters_of Tryz.func171 (by kernel_rfl) rfl)
    (all_stops 8 (by omega) lb g l (by have := HLT.out; omega) hEV w3 HAA.out) (fun h k => ⟨k.1.trans h.1, k.2.trans h.2⟩) (fun W i o o' h hc hw hk => ⟨World.putObj_heap_other (by omega), World.putObj_heap_other (by omega)⟩) (Below.refl _ _) (fun _ => rfl)
    (fun pre W => w3.heap.size ≤ W.heap.size ∧ ∃ v, Arr W ob 36 #[v] ∧ RowIn (fun k => w3.heap.size ≤ k) W 90 3 v pre.length (sbAt q.sb pre) ∧ Arr W bb 62 #[.pointer (some ⟨b, 0, none⟩)] ∧ Below bb w W)
    (fun _ _ _ => False)
    (fun s A B row ⟨h0, v, h1, h2, h3, h4⟩ hgr hr => ⟨Nat.le_trans h0 hgr.size, v, arr_ownFrom _ _ _ (fun _ : Unit => _) () A B row h1 hgr hr, row_ownFrom _ _ _ _ (fun _ : Unit => _) (fun _ => _) (fun _ => _) () A B row h2 hgr hr, arr_ownFrom _ _ _ (fun _ : Unit => _) () A B row h3 hgr hr,
      h4.grown hgr (by have := h3.lt; omega) (fun k e => by have := (hr k e).1; omega)⟩)
    (fun _ _ _ _ _ h => h.elim)
    ⟨Nat.le_refl _, _, AO.out, RowIn.nil _ _ _ _ _, AW.out, by have := HB3.out; rwa [HBB.out] at this⟩
    (fun x a' _ => a' = { tmps := #[.pointer (some ⟨b, 0, none⟩), .pointer (some ⟨bb, 0, none⟩), .slice none 0 0, .pointer (some ⟨ob, 0, none⟩), undef, .int .i64 x.1.v, .pointer (some ⟨b, 0, none⟩), .bool true, .pointer (some ⟨b, 0, none⟩), .pointer (some ⟨b, 0, none⟩), .pointer (some ⟨b, 7, none⟩), .pointer (some ⟨q.ip, 0, none⟩), .func (.func 171) #[] #[.pointer (some ⟨lb, 0, none⟩)], .int .u32 x.1.id, .int .i64 x.1.v, undef, undef, undef, undef, undef, undef, undef, undef, undef, undef, undef], defers := [] })
    (fun _ _ _ _ _ _ hs _ _ => hs) ?assign ?body ?done ?stop
  case assign =>
    intro i pre x W K hi hK
    have hKK := hK _ W (KeepsFrom.refl _ _) ⟨rfl, rfl⟩ hi rfl
    dsimp only [encS]
    gi_wp2
    exact hKK
  case stop => intro _ _ _ _ _ _ h; exact h.elim
  case done =>
    rintro D xs W hD hxs ⟨h0, v, h1, h2, h3, h4⟩ hK
    have hm : xs.map (fun x => q.sb x.1.v.toNat) = L := by rw [← hEL, ← hxs, List.map_map]; rfl
    have hlen : xs.length = L.length := by rw [← hm, List.length_map]
    have hrow : RowIn (fun k => bb ≤ k) W 90 3 v L.length (fun i => bkgL (L.getD i ⟨0, 0, 0⟩)) := by
      have h5 := h2.mono (T := fun k => bb ≤ k) (fun k hk _ => by omega)
      unfold sbAt at h5
      rw [hm, hlen] at h5
      exact h5
    have c1 : W.cell? ⟨ob, 0, none⟩ = some v := h1.cell 0
    have HR := Lib.hid hrow; have H4 := Lib.hid h4; have HK := Lib.hid hK
    clear h1 h2 h3 h4 hK hm hlen hrow
    gi_wp2
    have hgp := grownBy_putObj' W D (.deferred none)
    have hfin : Below bb w (W.putObj D (.deferred none)) := H4.out.grown hgp (by have := H4.out.size; have := HBB.out; omega) (fun k e => by cases e; omega)
    have hrow' : RowIn (fun k => bb ≤ k) (W.putObj D (.deferred none)) 90 3 v L.length (fun i => bkgL (L.getD i ⟨0, 0, 0⟩)) := row_ownFrom 0 _ _ _ (fun _ : Unit => _) (fun _ => _) (fun _ => _) () W _ (some D) HR.out hgp (fun k e => by cases e; exact ⟨Nat.zero_le _, _, HK.out, rfl⟩)
    refine ⟨by simp, .inl ⟨_, _, rfl, run_takeDeferred HK.out, ?_⟩⟩
    refine ⟨_, results_tmp rfl _ _ _, ?_⟩
    refine ⟨v, rfl, ?_, ?_⟩
    · rw [HBB.out]; exact hrow'
    · rw [HBB.out]; exact hfin
  case body =>
    rintro r pre x a' W hl hr ⟨h0, v, h1, h2, h3, h4⟩ rfl hlt
    obtain ⟨i, hi, hxv⟩ := x.2
    have hcm : Comp S W b n codes group next clock L.length q := HH.out.below (by rw [HBB.out]; exact h4)
    have hli : (i : Int) < (n : Int) := by omega
    have hi0 : (0 : Int) ≤ (i : Int) := by omega
    rw [hxv]
    gi_wp2
    obtain ⟨bi, hbi⟩ : ∃ y, q.sb i = y := ⟨_, rfl⟩
    have hrg := hcm.seats.range (fun _ => rfl) hi
    rw [hbi] at hrg
    have HS0 := Lib.hid (show W.drew.cell? ⟨bb, 0, none⟩ = some (.pointer (some ⟨b, 0, none⟩)) ∧ W.drew.cell? ⟨b, 8, none⟩ = some (.slice (some ⟨q.sg, 0, none⟩) n q.sc) ∧ W.drew.rangeAt q.sg (i * 3) [.int .u32 bi.id, .int .i64 (bi.seat : Int), .int .i64 bi.til] from ⟨h3.cell 0, hcm.own.cell 8, hrg⟩)
    have hbx : Below W.heap.size W (W.drew.alloc (.cells #[.int .u32 bi.id, .int .i64 (bi.seat : Int), .int .i64 bi.til] 90)) := ext_alloc (ext_drew (Below.refl _ _)) _
    have HRX := Lib.hid (h2.keep hbx); have HBX := Lib.hid hbx; have HB4 := Lib.hid h4; have HAB := Lib.hid h3; have HAO := Lib.hid h1; have HI := Lib.hid hi; have HBI := Lib.hid hbi; have HSW := Lib.hid h0
    have HSZ := Lib.hid (show bb ≤ W.heap.size by omega)
    have HZ1 := Lib.hid (show (W.drew.alloc (.cells #[.int .u32 bi.id, .int .i64 (bi.seat : Int), .int .i64 bi.til] 90)).heap.size = W.heap.size + 1 by simp)
    have HZ2 := Lib.hid (show (W.alloc (.cells #[.int .u32 bi.id, .int .i64 (bi.seat : Int), .int .i64 bi.til] 90)).heap.size = W.heap.size + 1 by simp)
    have hcx := hcm.below hbx
    have HSX := Lib.hid (show (W.drew.alloc (.cells #[.int .u32 bi.id, .int .i64 (bi.seat : Int), .int .i64 bi.til] 90)).cell? ⟨bb, 0, none⟩ = some (.pointer (some ⟨b, 0, none⟩)) ∧ (W.drew.alloc (.cells #[.int .u32 bi.id, .int .i64 (bi.seat : Int), .int .i64 bi.til] 90)).cell? ⟨b, 8, none⟩ = some (.slice (some ⟨q.sg, 0, none⟩) n q.sc) ∧ (W.drew.alloc (.cells #[.int .u32 bi.id, .int .i64 (bi.seat : Int), .int .i64 bi.til] 90)).rangeAt q.sg (i * 3) [.int .u32 bi.id, .int .i64 (bi.seat : Int), .int .i64 bi.til] from ⟨(h3.keep hbx).cell 0, hcx.own.cell 8, by have := hcx.seats.range (fun _ => rfl) hi; rw [hbi] at this; exact this⟩)
    have o0 : W.drew.cell? ⟨ob, 0, none⟩ = some v := h1.cell 0
    have o1 : (W.drew.alloc (.cells #[.int .u32 bi.id, .int .i64 (bi.seat : Int), .int .i64 bi.til] 90)).cell? ⟨ob, 0, none⟩ = some v := (h1.keep hbx).cell 0
    have o2 : (W.alloc (.cells #[.int .u32 bi.id, .int .i64 (bi.seat : Int), .int .i64 bi.til] 90)).cell? ⟨ob, 0, none⟩ = some v := o1
    have hpl : pre.length ≤ 4096 := by have := HLT.out; omega
    have HSB := Lib.hid (show sbAt q.sb (pre ++ [x]) = setL (sbAt q.sb pre) pre.length (bkgL bi) from sbAt_snoc q.sb pre x bi (by rw [hxv, Int.toNat_natCast, hbi]))
    clear h0 h1 h2 h3 h4 hrg hbx hcx hcm hbi hr
    refine wpIn_round_held (S := fun w' => w'.cell? ⟨bb, 0, none⟩ = some (.pointer (some ⟨b, 0, none⟩)) ∧ w'.cell? ⟨b, 8, none⟩ = some (.slice (some ⟨q.sg, 0, none⟩) n q.sc) ∧ w'.rangeAt q.sg (i * 3) [.int .u32 bi.id, .int .i64 (bi.seat : Int), .int .i64 bi.til]) (fun ⟨_, _, hx⟩ => hx) (by rfl) (by kernel_rfl) HS0.out (fun hHeld => ?_)
    refine tky 1 (some 16) hHeld ?_
    refine tky 2 (some 17) hHeld ?_
    refine tky 3 (some 18) hHeld ?_
    refine tky 4 (some 19) hHeld ?_
    refine tky 5 (some 20) hHeld ?_
    refine tky 6 (some 21) hHeld ?_
    try simp only [Act.put, List.setIfInBounds_toArray, List.set_cons_zero, List.set_cons_succ]
    refine tk_load 7 (some 22) hHeld 90 (.tmp 21) q.sg (i * 3) [.int .u32 bi.id, .int .i64 (bi.seat : Int), .int .i64 bi.til] _ (fun w' h => h.2.2) Tryz.underlying90 rfl bkg_size ?_
    try simp only [Act.put, List.setIfInBounds_toArray, List.set_cons_zero, List.set_cons_succ]
    refine wpAnyH_ready (rs := [0, 8]) (by kernel_rfl) (by simp) ?_
    refine AllReadyH.cons rfl (fun K hK => ?_) (AllReadyH.cons rfl (fun K hK => ?_) AllReadyH.nil)
    · go_simp
      go_wp2_with fail
      refine hK.out _ _ (by exact HS0.out) (fun hH0 => ?_)
      clear hK K
      try simp only [Act.put, List.setIfInBounds_toArray, List.set_cons_zero, List.set_cons_succ]
      refine wpAnyH_ready (rs := [8]) (by kernel_rfl) (by simp) ?_
      refine AllReadyH.cons rfl (fun K hK => ?_) AllReadyH.nil
      go_simp
      go_wp2_with fail
      refine hK.out _ _ (by exact HSX.out) (fun hH8 => ?_)
      clear hK K
      try simp only [Act.put, List.setIfInBounds_toArray, List.set_cons_zero, List.set_cons_succ]
      refine wpAnyH_ready (rs := [9]) (by kernel_rfl) (by simp) ?_
      refine AllReadyH.cons rfl (fun K hK => ?_) AllReadyH.nil
      refine wp_append_elem _ (.tmp 15) (.tmp 23) 36 rfl 90 i0 (.agg #[.int .u32 0, .int .i64 0, .int .i64 0]) 3 24 Tryz.underlying36 hj0 hz0 hz1 hz2 rfl (by decide) v pre.length (sbAt q.sb pre) rfl HRX.out ⟨W.heap.size, 0, none⟩ 1 [.int .u32 bi.id, .int .i64 (bi.seat : Int), .int .i64 bi.til] rfl rfl (news_any W.drew _ _) (bkgL_one bi) (by unfold maxLen; omega) (by omega) ?_
      intro ga ca w4 hr4 hg4
      replace hr4 := hr4.mono (T := fun k => w3.heap.size ≤ k) (fun k hk _ => by
        rcases hk with h8 | h8
        · exact h8
        · subst h8; have h9 := HSW.out; show _ ≤ _; simp; omega)
      have hz4 : W.heap.size + 1 ≤ w4.heap.size := by have := hg4.size; simp at this; omega
      have hB4 : Below bb w w4 := (HB4.out.trans (HBX.out.mono HSZ.out)).grown hg4 (by have := HBX.out.size; have := HSZ.out; omega) (fun k e => by have := HRX.out.block k e; omega)
      have hW4 : Arr w4 bb 62 #[.pointer (some ⟨b, 0, none⟩)] := (HAB.out.keep HBX.out).grownTo hg4 (fun e => by have := HRX.out.block bb e; omega)
      have hO4 : Arr w4 ob 36 #[v] := (HAO.out.keep HBX.out).grownTo hg4 (fun e => by have := HRX.out.block ob e; omega)
      have hC4 : Comp S w4 b n codes group next clock L.length q := HH.out.below (by rw [HBB.out]; exact hB4)
      have HS4 := Lib.hid (show w4.cell? ⟨bb, 0, none⟩ = some (.pointer (some ⟨b, 0, none⟩)) ∧ w4.cell? ⟨b, 8, none⟩ = some (.slice (some ⟨q.sg, 0, none⟩) n q.sc) ∧ w4.rangeAt q.sg (i * 3) [.int .u32 bi.id, .int .i64 (bi.seat : Int), .int .i64 bi.til] from ⟨hW4.cell 0, hC4.own.cell 8, by have := hC4.seats.range (fun _ => rfl) HI.out; rw [HBI.out] at this; exact this⟩)
      have o4 : w4.cell? ⟨ob, 0, none⟩ = some v := hO4.cell 0
      have f4 := hO4.mark 0
      have hB5 : Below bb w (w4.setCell ⟨ob, 0, none⟩ (.slice (some ⟨ga, 0, none⟩) (pre.length + 1) ca)) := hB4.setCell (p := ⟨ob, 0, none⟩) (by have := HOB.out; show bb ≤ ob; omega) _
      have hW5 := hW4.other (p := ⟨ob, 0, none⟩) hne1 (.slice (some ⟨ga, 0, none⟩) (pre.length + 1) ca)
      have hC5 : Comp S (w4.setCell ⟨ob, 0, none⟩ (.slice (some ⟨ga, 0, none⟩) (pre.length + 1) ca)) b n codes group next clock L.length q := HH.out.below (by rw [HBB.out]; exact hB5)
      have HS5 := Lib.hid (show (w4.setCell ⟨ob, 0, none⟩ (.slice (some ⟨ga, 0, none⟩) (pre.length + 1) ca)).cell? ⟨bb, 0, none⟩ = some (.pointer (some ⟨b, 0, none⟩)) ∧ (w4.setCell ⟨ob, 0, none⟩ (.slice (some ⟨ga, 0, none⟩) (pre.length + 1) ca)).cell? ⟨b, 8, none⟩ = some (.slice (some ⟨q.sg, 0, none⟩) n q.sc) ∧ (w4.setCell ⟨ob, 0, none⟩ (.slice (some ⟨ga, 0, none⟩) (pre.length + 1) ca)).rangeAt q.sg (i * 3) [.int .u32 bi.id, .int .i64 (bi.seat : Int), .int .i64 bi.til] from ⟨hW5.cell 0, hC5.own.cell 8, by have := hC5.seats.range (fun _ => rfl) HI.out; rw [HBI.out] at this; exact this⟩)
      have HF := Lib.hid (show ownPostG w3.heap.size (KpA lb g) (fun pre W => w3.heap.size ≤ W.heap.size ∧ ∃ v, Arr W ob 36 #[v] ∧ RowIn (fun k => w3.heap.size ≤ k) W 90 3 v pre.length (sbAt q.sb pre) ∧ Arr W bb 62 #[.pointer (some ⟨b, 0, none⟩)] ∧ Below bb w W) (fun _ _ _ => False) (pre ++ [x]) W Exit.normal { tmps := #[], defers := [] } (w4.setCell ⟨ob, 0, none⟩ (.slice (some ⟨ga, 0, none⟩) (pre.length + 1) ca)) from by
        have hbl : ∀ k, k < w3.heap.size → k ≠ ob → (w4.setCell ⟨ob, 0, none⟩ (.slice (some ⟨ga, 0, none⟩) (pre.length + 1) ca)).heap[k]? = W.heap[k]? := fun k hk hne => ((Below.heap_setCell w4 ⟨ob, 0, none⟩ _ k hne).trans (hg4.block k (by have := HZ1.out; have := HZ2.out; have := HSW.out; (try simp); omega) (fun e => by have := HRX.out.block k e.symm; omega))).trans (HBX.out.block k (by have := HSW.out; omega))
        refine ⟨((Below.keepsFrom HBX.out _).trans ((KeepsOthers.of_grownBy hg4 (fun j o e ho => HRX.out.cells e ho)).from _)).trans ((KeepsOthers.setCell _ _ _).from _), ⟨hbl lb hlb3 hlbo, hbl g hg3 hgo⟩, by have := HSW.out; simp; omega, _, hO4.put 0 _, ?_, hW5, hB5⟩
        have h7 := hr4.put (q := ⟨ob, 0, none⟩) (fun k hk => by
          have h8 := hr4.block k hk
          show ob ≠ k
          omega) (.slice (some ⟨ga, 0, none⟩) (pre.length + 1) ca)
        rw [List.length_append]
        rw [show sbAt q.sb (pre ++ [x]) = setL (sbAt q.sb pre) pre.length (bkgL bi) from HSB.out]
        exact h7)
      clear hr4 hg4 hB4 hW4 hO4 hC4 hB5 hW5 hC5
      refine hK.out _ _ (by exact HS4.out) (fun hH9 => ?_)
      clear hK K
      try simp only [Act.put, List.setIfInBounds_toArray, List.set_cons_zero, List.set_cons_succ]
      refine wpAnyH_ready (rs := [10]) (by kernel_rfl) (by simp) ?_
      refine AllReadyH.cons rfl (fun K hK => ?_) AllReadyH.nil
      go_simp
      go_wp2_with fail
      refine hK.out _ _ (by exact HS5.out) (fun hH10 => ?_)
      clear hK K
      try simp only [Act.put, List.setIfInBounds_toArray, List.set_cons_zero, List.set_cons_succ]
      refine wpAnyH_done (by kernel_rfl) ?_ _
      exact HF.out
    · go_simp
      go_wp2_with fail
      refine hK.out _ _ (by exact HSX.out) (fun hH8 => ?_)
      clear hK K
      try simp only [Act.put, List.setIfInBounds_toArray, List.set_cons_zero, List.set_cons_succ]
      refine wpAnyH_ready (rs := [0]) (by kernel_rfl) (by simp) ?_
      refine AllReadyH.cons rfl (fun K hK => ?_) AllReadyH.nil
      go_simp
      go_wp2_with fail
      refine hK.out _ _ (by exact HSX.out) (fun hH0 => ?_)
      clear hK K
      try simp only [Act.put, List.setIfInBounds_toArray, List.set_cons_zero, List.set_cons_succ]
      refine wpAnyH_ready (rs := [9]) (by kernel_rfl) (by simp) ?_
      refine AllReadyH.cons rfl (fun K hK => ?_) AllReadyH.nil
      refine wp_append_elem _ (.tmp 15) (.tmp 23) 36 rfl 90 i0 (.agg #[.int .u32 0, .int .i64 0, .int .i64 0]) 3 24 Tryz.underlying36 hj0 hz0 hz1 hz2 rfl (by decide) v pre.length (sbAt q.sb pre) rfl HRX.out ⟨W.heap.size, 0, none⟩ 1 [.int .u32 bi.id, .int .i64 (bi.seat : Int), .int .i64 bi.til] rfl rfl (news_any W.drew _ _) (bkgL_one bi) (by unfold maxLen; omega) (by omega) ?_
      intro ga ca w4 hr4 hg4
      replace hr4 := hr4.mono (T := fun k => w3.heap.size ≤ k) (fun k hk _ => by
        rcases hk with h8 | h8
        · exact h8
        · subst h8; have h9 := HSW.out; show _ ≤ _; simp; omega)
      have hz4 : W.heap.size + 1 ≤ w4.heap.size := by have := hg4.size; simp at this; omega
      have hB4 : Below bb w w4 := (HB4.out.trans (HBX.out.mono HSZ.out)).grown hg4 (by have := HBX.out.size; have := HSZ.out; omega) (fun k e => by have := HRX.out.block k e; omega)
      have hW4 : Arr w4 bb 62 #[.pointer (some ⟨b, 0, none⟩)] := (HAB.out.keep HBX.out).grownTo hg4 (fun e => by have := HRX.out.block bb e; omega)
      have hO4 : Arr w4 ob 36 #[v] := (HAO.out.keep HBX.out).grownTo hg4 (fun e => by have := HRX.out.block ob e; omega)
      have hC4 : Comp S w4 b n codes group next clock L.length q := HH.out.below (by rw [HBB.out]; exact hB4)
      have HS4 := Lib.hid (show w4.cell? ⟨bb, 0, none⟩ = some (.pointer (some ⟨b, 0, none⟩)) ∧ w4.cell? ⟨b, 8, none⟩ = some (.slice (some ⟨q.sg, 0, none⟩) n q.sc) ∧ w4.rangeAt q.sg (i * 3) [.int .u32 bi.id, .int .i64 (bi.seat : Int), .int .i64 bi.til] from ⟨hW4.cell 0, hC4.own.cell 8, by have := hC4.seats.range (fun _ => rfl) HI.out; rw [HBI.out] at this; exact this⟩)
      have o4 : w4.cell? ⟨ob, 0, none⟩ = some v := hO4.cell 0
      have f4 := hO4.mark 0
      have hB5 : Below bb w (w4.setCell ⟨ob, 0, none⟩ (.slice (some ⟨ga, 0, none⟩) (pre.length + 1) ca)) := hB4.setCell (p := ⟨ob, 0, none⟩) (by have := HOB.out; show bb ≤ ob; omega) _
      have hW5 := hW4.other (p := ⟨ob, 0, none⟩) hne1 (.slice (some ⟨ga, 0, none⟩) (pre.length + 1) ca)
      have hC5 : Comp S (w4.setCell ⟨ob, 0, none⟩ (.slice (some ⟨ga, 0, none⟩) (pre.length + 1) ca)) b n codes group next clock L.length q := HH.out.below (by rw [HBB.out]; exact hB5)
      have HS5 := Lib.hid (show (w4.setCell ⟨ob, 0, none⟩ (.slice (some ⟨ga, 0, none⟩) (pre.length + 1) ca)).cell? ⟨bb, 0, none⟩ = some (.pointer (some ⟨b, 0, none⟩)) ∧ (w4.setCell ⟨ob, 0, none⟩ (.slice (some ⟨ga, 0, none⟩) (pre.length + 1) ca)).cell? ⟨b, 8, none⟩ = some (.slice (some ⟨q.sg, 0, none⟩) n q.sc) ∧ (w4.setCell ⟨ob, 0, none⟩ (.slice (some ⟨ga, 0, none⟩) (pre.length + 1) ca)).rangeAt q.sg (i * 3) [.int .u32 bi.id, .int .i64 (bi.seat : Int), .int .i64 bi.til] from ⟨hW5.cell 0, hC5.own.cell 8, by have := hC5.seats.range (fun _ => rfl) HI.out; rw [HBI.out] at this; exact this⟩)
      have HF := Lib.hid (show ownPostG w3.heap.size (KpA lb g) (fun pre W => w3.heap.size ≤ W.heap.size ∧ ∃ v, Arr W ob 36 #[v] ∧ RowIn (fun k => w3.heap.size ≤ k) W 90 3 v pre.length (sbAt q.sb pre) ∧ Arr W bb 62 #[.pointer (some ⟨b, 0, none⟩)] ∧ Below bb w W) (fun _ _ _ => False) (pre ++ [x]) W Exit.normal { tmps := #[], defers := [] } (w4.setCell ⟨ob, 0, none⟩ (.slice (some ⟨ga, 0, none⟩) (pre.length + 1) ca)) from by
        have hbl : ∀ k, k < w3.heap.size → k ≠ ob → (w4.setCell ⟨ob, 0, none⟩ (.slice (some ⟨ga, 0, none⟩) (pre.length + 1) ca)).heap[k]? = W.heap[k]? := fun k hk hne => ((Below.heap_setCell w4 ⟨ob, 0, none⟩ _ k hne).trans (hg4.block k (by have := HZ1.out; have := HZ2.out; have := HSW.out; (try simp); omega) (fun e => by have := HRX.out.block k e.symm; omega))).trans (HBX.out.block k (by have := HSW.out; omega))
        refine ⟨((Below.keepsFrom HBX.out _).trans ((KeepsOthers.of_grownBy hg4 (fun j o e ho => HRX.out.cells e ho)).from _)).trans ((KeepsOthers.setCell _ _ _).from _), ⟨hbl lb hlb3 hlbo, hbl g hg3 hgo⟩, by have := HSW.out; simp; omega, _, hO4.put 0 _, ?_, hW5, hB5⟩
        have h7 := hr4.put (q := ⟨ob, 0, none⟩) (fun k hk => by
          have h8 := hr4.block k hk
          show ob ≠ k
          omega) (.slice (some ⟨ga, 0, none⟩) (pre.length + 1) ca)
        rw [List.length_append]
        rw [show sbAt q.sb (pre ++ [x]) = setL (sbAt q.sb pre) pre.length (bkgL bi) from HSB.out]
        exact h7)
      clear hr4 hg4 hB4 hW4 hO4 hC4 hB5 hW5 hC5
      refine hK.out _ _ (by exact HS4.out) (fun hH9 => ?_)
      clear hK K
      try simp only [Act.put, List.setIfInBounds_toArray, List.set_cons_zero, List.set_cons_succ]
      refine wpAnyH_ready (rs := [10]) (by kernel_rfl) (by simp) ?_
      refine AllReadyH.cons rfl (fun K hK => ?_) AllReadyH.nil
      go_simp
      go_wp2_with fail
      refine hK.out _ _ (by exact HS5.out) (fun hH10 => ?_)
      clear hK K
      try simp only [Act.put, List.setIfInBounds_toArray, List.set_cons_zero, List.set_cons_succ]
      refine wpAnyH_done (by kernel_rfl) ?_ _
      exact HF.out

end Go.Proofs.YtbnkanehjnepbaaGreatDoor.Bk
end

/- Layer 17: the book: Len, Next, Clock, Copy. -/
section
set_option linter.unusedVariables false
set_option linter.unusedSimpArgs false
namespace Go.Proofs.YtbnkanehjnepbaaGreatDoor.Bk
open Go.RowKit
open Go.Proofs.YtbnkanehjnepbaaGreatDoor.Bit (SetAt hasB)

-- index.Len
set_option maxRecDepth 100000 in
set_option maxHeartbeats 1000000 in
theorem IdxLen (p g n most len graves : Nat) (f : Nat → Idx.Slot) (w : World) (h : Idx.IdxOk w p g n most len graves f) :
    Calls Tryz.prog 123 #[.pointer (some ⟨p, 0, none⟩)] w fun e w' => e = .returned (.int .i64 len) ∧ w' = w := by
  obtain ⟨steps, hI⟩ := h.lies
  have x0 : w.cell? ⟨p, 0, none⟩ = some (.slice (some ⟨g, 0, none⟩) n n) := hI.own.cell 0
  have x2 : w.cell? ⟨p, 2, none⟩ = some (.int .i64 len) := hI.own.cell 2
  clear h hI
  go_enter Tryz.func123, Tryz.ntmps123
  go_wp2_with fail
  refine (Idx.made_in p g n w x0).mono ?_
  rintro e w1 ⟨rfl, hw⟩
  rw [hw]
  clear hw w1
  go_wp2_with fail
  go_ret
  exact ⟨rfl, rfl⟩
-- book.Len
set_option maxRecDepth 100000 in
set_option maxHeartbeats 1000000 in
theorem Len_in {S : Nat → Prop} {w : World} {b n codes : Nat} {group next clock : Int} {len : Nat} {q : Parts} (h : Comp S w b n codes group next clock len q) :
    Calls Tryz.prog 65 #[.pointer (some ⟨b, 0, none⟩)] w fun e w' => e = .returned (.int .i64 len) ∧ w' = w := by
  have x7 : w.cell? ⟨b, 7, none⟩ = some (.pointer (some ⟨q.ip, 0, none⟩)) := h.own.cell 7
  have HT := Lib.hid (there_in b true w (h.own.cell 3))
  have HI := Lib.hid (IdxLen q.ip q.ig q.m codes len 0 q.f w h.ids)
  clear h
  go_enter Tryz.func65, Tryz.ntmps65
  go_wp2_with fail
  refine HT.out.mono ?_
  rintro e w1 ⟨rfl, hw⟩
  rw [hw]
  clear hw w1
  go_wp2_with fail
  refine HI.out.mono ?_
  rintro e w1 ⟨rfl, hw⟩
  rw [hw]
  clear hw w1
  go_wp2_with fail
  go_ret
  exact ⟨rfl, rfl⟩
set_option maxRecDepth 100000 in
set_option maxHeartbeats 1000000 in
theorem Next_in {S : Nat → Prop} {w : World} {b n codes : Nat} {group next clock : Int} {len : Nat} {q : Parts} (h : Comp S w b n codes group next clock len q) :
    Calls Tryz.prog 62 #[.pointer (some ⟨b, 0, none⟩)] w fun e w' => e = .returned (.int .u32 next) ∧ w' = w := by
  have x7 : w.cell? ⟨b, 5, none⟩ = some (.int .u32 next) := h.own.cell 5
  have HT := Lib.hid (there_in b true w (h.own.cell 3))
  clear h
  go_enter Tryz.func62, Tryz.ntmps62
  go_wp2_with fail
  refine HT.out.mono ?_
  rintro e w1 ⟨rfl, hw⟩
  rw [hw]
  clear hw w1
  go_wp2_with fail
  go_ret
  exact ⟨rfl, rfl⟩
set_option maxRecDepth 100000 in
set_option maxHeartbeats 1000000 in
theorem Clock_in {S : Nat → Prop} {w : World} {b n codes : Nat} {group next clock : Int} {len : Nat} {q : Parts} (h : Comp S w b n codes group next clock len q) :
    Calls Tryz.prog 64 #[.pointer (some ⟨b, 0, none⟩)] w fun e w' => e = .returned (.int .i64 clock) ∧ w' = w := by
  have x7 : w.cell? ⟨b, 4, none⟩ = some (.int .i64 clock) := h.own.cell 4
  have HT := Lib.hid (there_in b true w (h.own.cell 3))
  clear h
  go_enter Tryz.func64, Tryz.ntmps64
  go_wp2_with fail
  refine HT.out.mono ?_
  rintro e w1 ⟨rfl, hw⟩
  rw [hw]
  clear hw w1
  go_wp2_with fail
  go_ret
  exact ⟨rfl, rfl⟩

/-- a book as it may be -/
structure BkOk (n codes : Nat) (group next clock : Int) (L : List Bkg) : Prop where
  kshape : Geo.okS n codes group = true
  knext : 1 ≤ next ∧ next < 4294967296
  kclock : 0 ≤ clock ∧ clock ≤ 1099511627776
  klen : L.length ≤ codes
  krise : L.Pairwise fun x y => x.id < y.id
  kids : ∀ x ∈ L, 1 ≤ x.id ∧ x.id < next
  kseats : ∀ x ∈ L, x.seat < n
  kalone : L.Pairwise fun x y => x.seat ≠ y.seat
  ktil : ∀ x ∈ L, x.til = 0 ∨ clock < x.til ∧ x.til ≤ 1099511627776
theorem BkOk.codes {n codes : Nat} {group next clock : Int} {L : List Bkg} (h : BkOk n codes group next clock L) : codes ≤ 4096 := by
  have := Geo.okS_yes h.kshape
  omega
def ofB (x : Bkg) : Raw := ⟨x.id, x.seat, x.til⟩
theorem toB_ofB (x : Bkg) : toB (ofB x) = x := by cases x; simp [toB, ofB]
theorem ofR_ok {n : Nat} {next clock : Int} : ∀ (l M : List Bkg) (last : Int), (∀ x ∈ l, last < x.id) → (l.Pairwise fun x y => x.id < y.id) → (l.Pairwise fun x y => x.seat ≠ y.seat) →
    (∀ x ∈ l, x.id < next ∧ x.seat < n ∧ (x.til = 0 ∨ clock < x.til ∧ x.til ≤ 1099511627776)) → (∀ x ∈ l, ∀ y ∈ M, y.seat ≠ x.seat) → ofR n next clock M last (l.map ofB) = some (M ++ l)
  | [], M, _, _, _, _, _, _ => by simp [ofR]
  | x :: l, M, last, h1, h2, h3, h4, h5 => by
    rw [List.pairwise_cons] at h2 h3
    have hx := h4 x (List.mem_cons_self ..)
    have hm : mayR n next clock M last (ofB x) = true := by
      simp only [mayR, ofB, Bool.and_eq_true, Bool.or_eq_true, decide_eq_true_eq, List.all_eq_true, Bool.not_eq_true', decide_eq_false_iff_not, beq_iff_eq]
      refine ⟨decide_eq_true (h1 x (List.mem_cons_self ..)), decide_eq_true hx.1, decide_eq_true (Int.natCast_nonneg _), decide_eq_true (Int.ofNat_lt.2 hx.2.1), fun y hy => ?_, ?_⟩
      · have h6 := h5 x (List.mem_cons_self ..) y hy
        exact decide_eq_false (fun e => h6 (Int.ofNat.inj e))
      · rcases hx.2.2 with e | ⟨e1, e2⟩
        · exact .inl e
        · exact .inr ⟨decide_eq_true e1, decide_eq_true e2⟩
    rw [List.map_cons, ofR, if_pos hm, toB_ofB]
    show ofR n next clock (M ++ [x]) x.id (l.map ofB) = _
    rw [ofR_ok l (M ++ [x]) x.id h2.1 h2.2 h3.2 (fun y hy => h4 y (List.mem_cons_of_mem _ hy)) (fun y hy z hz => by
      rcases List.mem_append.1 hz with hz | hz
      · exact h5 y (List.mem_cons_of_mem _ hy) z hz
      · rw [List.mem_singleton] at hz
        subst hz
        exact h3.1 y hy)]
    simp
theorem BkOk.of {n codes : Nat} {group next clock : Int} {L : List Bkg} (h : BkOk n codes group next clock L) : bookOf n codes next clock (L.map ofB) = some L := by
  unfold bookOf
  rw [if_neg (by rw [List.length_map]; have := h.knext; have := h.kclock; have := h.klen; omega)]
  exact ofR_ok L [] 0 (fun x hx => by have := h.kids x hx; omega) h.krise h.kalone (fun x hx => ⟨(h.kids x hx).2, h.kseats x hx, h.ktil x hx⟩) (fun _ _ _ hy => by cases hy)
theorem raws_of {S : Nat → Prop} {w : World} {A : Option Addr} {c : Nat} {L : List Bkg} (h : RowIn S w 90 3 (.slice A L.length c) L.length (fun i => bkgL (L.getD i ⟨0, 0, 0⟩))) : Raws w A (L.map ofB) := by
  intro hne
  have hl : 0 < L.length := by
    rcases Nat.eq_zero_or_pos L.length with h0 | h0
    · exact absurd (by rw [List.length_eq_zero_iff.1 h0]; rfl) hne
    · exact h0
  obtain ⟨g, cap, hv, _, _, _, hg⟩ := h.form hl
  injection hv with e1 _ e2
  subst e1 e2
  refine ⟨g, 0, rfl, hg, fun k hk => ?_⟩
  rw [List.length_map] at hk
  have h1 := h.range (fun _ => rfl) hk
  rw [Nat.zero_add]
  have e : (L.map ofB).getD k ⟨0, 0, 0⟩ = ofB (L.getD k ⟨0, 0, 0⟩) := by
    rw [List.getD_eq_getElem?_getD, List.getD_eq_getElem?_getD, List.getElem?_map, List.getElem?_eq_getElem hk]
    rfl
  rw [e]
  exact h1
theorem Comp.own_range {S : Nat → Prop} {w : World} {b n codes : Nat} {group next clock : Int} {len : Nat} {q : Parts} (h : Comp S w b n codes group next clock len q) : w.rangeAt b 0 [.int .i64 n, .int .i64 codes, .int .i64 group] := by
  intro j u hj
  rw [Nat.zero_add]
  match j, hj with
  | 0, hj => exact (h.own.cell 0).trans hj
  | 1, hj => exact (h.own.cell 1).trans hj
  | 2, hj => exact (h.own.cell 2).trans hj
def CpOut (n codes : Nat) (group next clock : Int) (L : List Bkg) (w : World) (e : Ending) (w' : World) : Prop := ∃ b S q, e = .returned (.pointer (some ⟨b, 0, none⟩)) ∧ BookAt S w' b n codes group next clock L q ∧ (∀ k, S k → w.heap.size ≤ k) ∧ Below w.heap.size w w'
set_option maxRecDepth 100000 in
set_option maxHeartbeats 4000000 in
theorem Copy_in {S : Nat → Prop} {w : World} {b n codes : Nat} {group next clock : Int} {L : List Bkg} {q : Parts} (h : BookAt S w b n codes group next clock L q) (hk : BkOk n codes group next clock L) : Calls Tryz.prog 52 #[.pointer (some ⟨b, 0, none⟩)] w (CpOut n codes group next clock L w) := by
  have HT := Lib.hid (there_in b true w (h.comp.own.cell 3))
  have HLS := Lib.hid (show ∀ W, Below w.heap.size w W → Calls Tryz.prog 51 #[.pointer (some ⟨b, 0, none⟩)] W (LsOut L W) from fun W hW => list_in (h.below hW) hk.krise)
  have HH := Lib.hid h.comp; have HK := Lib.hid hk; have HBO := Lib.hid hk.of
  have HS1 := Lib.hid (show w.drew.rangeAt b 0 [.int .i64 n, .int .i64 codes, .int .i64 group] ∧ w.drew.cell? ⟨b, 5, none⟩ = some (.int .u32 next) ∧ w.drew.cell? ⟨b, 4, none⟩ = some (.int .i64 clock) from ⟨h.comp.own_range, h.comp.own.cell 5, h.comp.own.cell 4⟩)
  clear h hk
  go_enter Tryz.func52, Tryz.ntmps52
  go_wp2_with fail
  refine HT.out.mono ?_
  rintro e w1 ⟨rfl, hw⟩
  rw [hw]
  clear hw w1
  go_wp2_with fail
  refine wp_region_held_drew (S := fun w' => w'.rangeAt b 0 [.int .i64 n, .int .i64 codes, .int .i64 group] ∧ w'.cell? ⟨b, 5, none⟩ = some (.int .u32 next) ∧ w'.cell? ⟨b, 4, none⟩ = some (.int .i64 clock)) (by kernel_rfl) (by exact HS1.out) (fun hHeld => ?_)
  refine tky 0 (some 9) hHeld ?_
  refine tky 1 (some 10) hHeld ?_
  refine tky 2 (some 11) hHeld ?_
  refine tky 3 (some 12) hHeld ?_
  try simp only [Act.put, List.setIfInBounds_toArray, List.set_cons_zero, List.set_cons_succ]
  refine tk_load 4 (some 13) hHeld 23 (.tmp 12) b 0 [.int .i64 n, .int .i64 codes, .int .i64 group] _ (fun w' h => h.1) Tryz.underlying23 rfl shape_size ?_
  refine tky 5 (some 14) hHeld ?_
  refine tky 6 (some 15) hHeld ?_
  refine tky 7 (some 16) hHeld ?_
  refine tky 8 (some 17) hHeld ?_
  refine tky 9 (some 18) hHeld ?_
  refine tky 10 (some 19) hHeld ?_
  refine tky 11 (some 20) hHeld ?_
  refine tky 12 (some 21) hHeld ?_
  refine tky 13 (some 22) hHeld ?_
  try simp only [Act.put, List.setIfInBounds_toArray, List.set_cons_zero, List.set_cons_succ]
  refine wpAnyH_ready (rs := [14]) (by kernel_rfl) (by simp) ?_
  refine AllReadyH.cons rfl (fun K hK => ?_) AllReadyH.nil
  go_simp
  refine (HLS.out _ (by repeat (first | with_reducible exact Below.refl _ _ | with_reducible refine ext_alloc ?_ _ | with_reducible refine ext_drew ?_ | with_reducible refine ext_drewN ?_ _ | (refine ext_setCell ?_ (by simp at *; omega) _) | with_reducible refine ext_trans ?_ (by assumption)))).mono ?_
  rintro e w2 ⟨v, rfl, hrow, hb2⟩
  have hB2 : Below w.heap.size w w2 := ext_trans (ext_drew (Below.refl _ _)) hb2
  have HS2 := Lib.hid (show w2.rangeAt b 0 [.int .i64 n, .int .i64 codes, .int .i64 group] ∧ w2.cell? ⟨b, 5, none⟩ = some (.int .u32 next) ∧ w2.cell? ⟨b, 4, none⟩ = some (.int .i64 clock) from ⟨(HH.out.below hB2).own_range, (HH.out.below hB2).own.cell 5, (HH.out.below hB2).own.cell 4⟩)
  obtain ⟨VA, vc, rfl⟩ := hrow.any
  have HOF := Lib.hid (Of_in n codes group next clock (L.map ofB) VA vc w2 HK.out.kshape (raws_of hrow) (by rw [List.length_map]; have := HK.out.klen; have := HK.out.codes; omega) (by have := HK.out.knext; omega) (by rintro x hx; obtain ⟨y, hy, rfl⟩ := List.mem_map.1 hx; have := HK.out.kids y hy; have := HK.out.knext; show 0 ≤ y.id ∧ y.id < 4294967296; omega))
  rw [List.length_map] at HOF
  have HB2 := Lib.hid hB2
  clear hrow hb2 hB2
  refine hK.out _ _ (by exact HS2.out) (fun hH14 => ?_)
  clear hK K
  try simp only [Act.put, List.setIfInBounds_toArray, List.set_cons_zero, List.set_cons_succ]
  refine wpAnyH_ready (rs := [15]) (by kernel_rfl) (by simp) ?_
  refine AllReadyH.cons rfl (fun K hK => ?_) AllReadyH.nil
  go_simp
  refine HOF.out.mono ?_
  rintro e w3 ⟨hb3, hm⟩
  rw [HBO.out] at hm
  obtain ⟨b', S', q', rfl, hbk, hS'⟩ := hm
  have hB3 := ext_trans HB2.out hb3
  have HS3 := Lib.hid (show w3.rangeAt b 0 [.int .i64 n, .int .i64 codes, .int .i64 group] ∧ w3.cell? ⟨b, 5, none⟩ = some (.int .u32 next) ∧ w3.cell? ⟨b, 4, none⟩ = some (.int .i64 clock) from ⟨(HH.out.below hB3).own_range, (HH.out.below hB3).own.cell 5, (HH.out.below hB3).own.cell 4⟩)
  have HF := Lib.hid (show CpOut n codes group next clock L w (.returned (.pointer (some ⟨b', 0, none⟩))) w3 from ⟨b', S', q', rfl, hbk, fun k hk => by have := hS' k hk; have := HB2.out.size; omega, hB3⟩)
  clear hb3 hbk hS' hB3 HOF
  refine hK.out _ _ (by exact HS3.out) (fun hH15 => ?_)
  clear hK K
  try simp only [Act.put, List.setIfInBounds_toArray, List.set_cons_zero, List.set_cons_succ]
  refine tky 16 (some 8) hH15 ?_
  refine tky 17 (some 25) hH15 ?_
  refine tky 18 (some 26) hH15 ?_
  refine tky 19 (some 3) hH15 ?_
  refine tky 20 (some 4) hH15 ?_
  try simp only [Act.put, List.setIfInBounds_toArray, List.set_cons_zero, List.set_cons_succ]
  refine wpAnyH_done (by kernel_rfl) ?_ _
  go_wp2_with fail
  go_ret
  exact HF.out

end Go.Proofs.YtbnkanehjnepbaaGreatDoor.Bk
end

/- Layer 17: the book: All, its iterator. -/
section
set_option linter.unusedVariables false
set_option linter.unusedSimpArgs false
namespace Go.Proofs.YtbnkanehjnepbaaGreatDoor.Bk
open Go.RowKit

def encV (x : Bkg) : Array Value := #[.agg #[.int .u32 x.id, .int .i64 x.seat, .int .i64 x.til]]
def KpV (vb : Nat) (v : Value) (A B : World) : Prop := B.heap[vb]? = A.heap[vb]? ∧ ∀ k, v.ownBlock = some k → B.heap[k]? = A.heap[k]?
def VRow (W : World) (v : Value) (L : List Bkg) : Prop := RowIn (fun _ => True) W 90 3 v L.length (fun i => bkgL (L.getD i ⟨0, 0, 0⟩))
/-- what the iterator reads: the bookings in a slice that a cell holds -/
structure ValAt (W : World) (vb : Nat) (v : Value) (L : List Bkg) : Prop where
  cell : Arr W vb 36 #[v]
  row : VRow W v L
theorem ValAt.keep {W W' : World} {vb : Nat} {v : Value} {L : List Bkg} (h : ValAt W vb v L) (hb : Below W.heap.size W W') : ValAt W' vb v L := ⟨h.cell.keep hb, RowIn.keep h.row hb⟩
theorem ValAt.lt {W : World} {vb : Nat} {v : Value} {L : List Bkg} (h : ValAt W vb v L) : ∀ k, v.ownBlock = some k → k < W.heap.size := fun _ hk => (own_lt h.row.own hk).1

set_option maxRecDepth 100000 in
set_option maxHeartbeats 4000000 in
theorem Values1_in (n : Nat) (hn : 2 ≤ n) (y vb : Nat) (v : Value) (L : List Bkg) (hL : L.length ≤ 16384) (J Jx : List Bkg → World → Prop) (W : World) (hJ : AbidesFrom W.heap.size J)
    (hY : ∀ pre x W1, x ∈ L → J pre W1 → pre.length < L.length → YieldAt Fence.wide (n - 1) Tryz.prog y (encV x) W1 fun e W' =>
      (e = .returned (.bool true) ∧ J (pre ++ [x]) W' ∧ KpV vb v W1 W') ∨ (e = .returned (.bool false) ∧ Jx (pre ++ [x]) W'))
    (hA : ValAt W vb v L) (h0 : J [] W) :
    CallsIn Fence.wide n Tryz.prog 148 #[.func (.yield y) #[] #[], .pointer (some ⟨vb, 0, none⟩)] W fun e W' => (∃ v, e = .returned v) ∧
      ((∃ xs : List Bkg, xs = L ∧ J xs W') ∨ (∃ pre : List Bkg, pre <+: L ∧ Jx pre W')) := by
  obtain ⟨A, cap, rfl⟩ := RowIn.any hA.row
  obtain ⟨g, hg⟩ : ∃ g, 0 < L.length → A = some ⟨g, 0, none⟩ := by
    rcases Nat.eq_zero_or_pos L.length with h | h
    · exact ⟨0, fun h' => by omega⟩
    · obtain ⟨g, cap', hv, _⟩ := RowIn.form hA.row h
      injection hv with e1 _ e2
      exact ⟨g, fun _ => e1⟩
  have x0 : W.cell? ⟨vb, 0, none⟩ = some (.slice A L.length cap) := hA.cell.cell 0
  have HRw := hA.row
  clear hA
  refine callsIn_of_wp Tryz.func148 rfl trivial ?_ rfl
  simp only [Tryz.ntmps148, List.size_toArray, List.length_cons, List.length_nil, Nat.reduceAdd, Nat.reduceSub, Array.replicate_succ, Array.replicate_zero, List.push_toArray, List.append_toArray, List.nil_append, List.cons_append]
  gi_wp2
  gi_loopw [7] (fun p wr => ∃ j : Nat, j ≤ L.length ∧ p = .int .i64 j ∧ J (L.take j) wr ∧ VRow wr (.slice A L.length cap) L) (fun p _ => (L.length - intOf p).toNat)
  case atStart =>
    exact ⟨0, Nat.zero_le _, rfl, h0, HRw⟩
  case round =>
    obtain ⟨j, hj, rfl, hJj, hR⟩ := hrel
    by_cases hlt : j < L.length
    · obtain rfl := hg (by omega)
      have hl1 : (j : Int) < (L.length : Int) := by omega
      have hl0 : (0 : Int) ≤ (j : Int) := by omega
      obtain ⟨s, hs⟩ : ∃ s, L.getD j ⟨0, 0, 0⟩ = s := ⟨_, rfl⟩
      have hrg := RowIn.range hR (fun _ => rfl) hlt
      rw [hs] at hrg
      have r0 : wr.cell? ⟨g, j * 3, none⟩ = some (.int .u32 s.id) := hrg 0 _ rfl
      have r1 : wr.cell? ⟨g, j * 3 + 1, none⟩ = some (.int .i64 s.seat) := hrg 1 _ rfl
      have r2 : wr.cell? ⟨g, j * 3 + 2, none⟩ = some (.int .i64 s.til) := hrg 2 _ rfl
      have hsl : L.take (j + 1) = L.take j ++ [s] := by
        rw [List.take_succ_eq_append_getElem hlt, ← hs]
        rw [List.getD, List.getElem?_eq_getElem hlt]
        rfl
      have hsm : s ∈ L := by rw [← hs, List.getD, List.getElem?_eq_getElem hlt]; exact List.getElem_mem _
      obtain ⟨w2, hw2⟩ : ∃ w2, wr.alloc (.cells #[.int .u32 s.id, .int .i64 s.seat, .int .i64 s.til] 90) = w2 := ⟨_, rfl⟩
      have hb2 : Below wr.heap.size wr w2 := by rw [← hw2]; exact ext_alloc (Below.refl _ _) _
      have hJ2 : J (L.take j) w2 := hJ _ wr w2 none hJj hb2.none (fun r e => by cases e)
      have hR2 : VRow w2 (.slice (some ⟨g, 0, none⟩) L.length cap) L := RowIn.keep hR hb2
      have hlen : (L.take j).length < L.length := by rw [List.length_take]; omega
      obtain ⟨fn, tmps, assign, body, hy, hYR⟩ := hY (L.take j) s w2 hsm hJ2 hlen
      dsimp only [encV] at hy
      have ha2 : Arr w2 wr.heap.size 90 #[.int .u32 s.id, .int .i64 s.seat, .int .i64 s.til] := by rw [← hw2]; exact Arr.fresh wr _ _
      have q0 : w2.cell? ⟨wr.heap.size, 0, none⟩ = some (.int .u32 s.id) := ha2.cell 0
      have q1 : w2.cell? ⟨wr.heap.size, 1, none⟩ = some (.int .i64 s.seat) := ha2.cell 1
      have q2 : w2.cell? ⟨wr.heap.size, 2, none⟩ = some (.int .i64 s.til) := ha2.cell 2
      gi_wp2
      refine ⟨fun h => (nomatch h), hYR.mono ?_⟩
      rintro e W3 (⟨rfl, hJ3, hk3⟩ | ⟨rfl, hJx3⟩)
      · have hR3 : VRow W3 (.slice (some ⟨g, 0, none⟩) L.length cap) L := RowIn.same1 hR2 (hk3.2 g rfl)
        gi_wp2
        go_roundw
        case rel => exact ⟨j + 1, by omega, by go_num, by rw [hsl]; exact hJ3, hR3⟩
        case measure => simp [intOf]; omega
      · gi_wp2
        refine bodyPost_ret (results_none rfl _ _ _) rfl ?_
        exact ⟨⟨_, rfl⟩, .inr ⟨L.take j ++ [s], by rw [← hsl]; exact List.take_prefix _ _, hJx3⟩⟩
    · have hl1 : ¬ (j : Int) < (L.length : Int) := by omega
      obtain rfl : j = L.length := by omega
      gi_wp2
      go_end0
      rw [List.take_length] at hJj
      exact ⟨⟨_, rfl⟩, .inl hJj⟩
theorem values_stops (n : Nat) (hn : 2 ≤ n) {V : Bkg → Prop} (vb : Nat) (v : Value) (L : List Bkg) (hL : L.length ≤ 16384) (hV : ∀ x ∈ L, V x) (W0 : World) (hA : ValAt W0 vb v L) :
    SeqStopsK Fence.wide n Tryz.prog 148 #[.pointer (some ⟨vb, 0, none⟩)] (fun x : {x : Bkg // V x} => encV x.1) (KpV vb v) (fun xs => xs.map (·.1) = L) (fun p => p.map (·.1) <+: L) L.length W0 := by
  intro y J Jx W hb hJ hJx hY h0
  refine CallsIn.mono (Values1_in n hn y vb v L hL (fun pre W => ∃ p : List {x : Bkg // V x}, p.map (·.1) = pre ∧ J p W) (fun pre W => ∃ p : List {x : Bkg // V x}, p.map (·.1) = pre ∧ Jx p W) W ?_ ?_ (hA.keep (hb.mono (Nat.le_refl _))) ⟨[], rfl, h0⟩) ?_
  · exact fun s A B row ⟨p, hp, hj⟩ hg hr => ⟨p, hp, hJ p A B row hj hg hr⟩
  · rintro pre x W1 hx ⟨p, rfl, hj⟩ hlt
    rw [List.length_map] at hlt
    obtain ⟨fn, tmps, assign, body, hy, hYR⟩ := hY p ⟨x, hV x hx⟩ W1 hj hlt
    refine ⟨fn, tmps, assign, body, hy, hYR.mono ?_⟩
    rintro e W' (⟨he, hj', hk⟩ | ⟨he, hj'⟩)
    · exact .inl ⟨he, ⟨p ++ [⟨x, hV x hx⟩], by simp, hj'⟩, hk⟩
    · exact .inr ⟨he, ⟨p ++ [⟨x, hV x hx⟩], by simp, hj'⟩⟩
  · rintro e W' ⟨he, ⟨xs, hx, p, hp, hj⟩ | ⟨pre, hpre, p, hp, hj⟩⟩
    · exact ⟨he, .inl ⟨p, hp.trans hx, hj⟩⟩
    · exact ⟨he, .inr ⟨p, by show p.map (·.1) <+: L; rw [hp]; exact hpre, hj⟩⟩
/-- what All hands over -/
def AlB (L : List Bkg) (w : World) (e : Ending) (w' : World) : Prop := ∃ vb v, e = .returned (.func (.func 148) #[] #[.pointer (some ⟨vb, 0, none⟩)]) ∧ ValAt w' vb v L ∧ w.heap.size ≤ vb ∧ (∀ k, v.ownBlock = some k → w.heap.size ≤ k) ∧ Below w.heap.size w w'
set_option maxRecDepth 100000 in
set_option maxHeartbeats 1000000 in
theorem Values_in (A : Option Addr) (l c : Nat) (w : World) : Calls Tryz.prog 80 #[.slice A l c] w fun e w' => e = .returned (.func (.func 148) #[] #[.pointer (some ⟨w.heap.size, 0, none⟩)]) ∧ w' = w.alloc (.cells #[.slice A l c] 36) := by
  go_enter Tryz.func80, Tryz.ntmps80
  go_wp2_with fail
  go_ret
  exact ⟨rfl, rfl⟩
set_option maxRecDepth 100000 in
set_option maxHeartbeats 1000000 in
theorem BAll_in {S : Nat → Prop} {w : World} {b n codes : Nat} {group next clock : Int} {L : List Bkg} {q : Parts} (h : BookAt S w b n codes group next clock L q) (hr : L.Pairwise fun x y => x.id < y.id) : Calls Tryz.prog 30 #[.pointer (some ⟨b, 0, none⟩)] w (AlB L w) := by
  have HL := Lib.hid (list_in h hr)
  clear h hr
  go_enter Tryz.func30, Tryz.ntmps30
  go_wp2_with fail
  refine HL.out.mono ?_
  rintro e w1 ⟨v, rfl, hrow, hb1⟩
  obtain ⟨A, vc, rfl⟩ := RowIn.any hrow
  have HR := Lib.hid hrow; have HB := Lib.hid hb1
  clear hrow hb1 HL
  go_wp2_with fail
  refine (Values_in A L.length vc w1).mono ?_
  rintro e w2 ⟨rfl, hw2⟩
  have ha2 : Arr w2 w1.heap.size 36 #[.slice A L.length vc] := by rw [hw2]; exact Arr.fresh w1 _ _
  have hb2 : Below w1.heap.size w1 w2 := by rw [hw2]; exact ext_alloc (Below.refl _ _) _
  have HF := Lib.hid (show AlB L w (.returned (.func (.func 148) #[] #[.pointer (some ⟨w1.heap.size, 0, none⟩)])) w2 from ⟨w1.heap.size, _, rfl, ⟨ha2, (HR.out.keep hb2).mono (fun _ _ _ => trivial)⟩, HB.out.size, fun k hk => HR.out.block k hk, ext_trans HB.out hb2⟩)
  clear hw2 ha2 hb2 HR HB
  go_wp2_with fail
  go_ret
  exact HF.out

end Go.Proofs.YtbnkanehjnepbaaGreatDoor.Bk
end
