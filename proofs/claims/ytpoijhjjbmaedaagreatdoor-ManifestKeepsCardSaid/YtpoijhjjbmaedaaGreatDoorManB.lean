/- Packed: Man6 Man7 Man8 Man9 Man10 -/
import Derived.Test.YtpoijhjjbmaedaaGreatDoorKitA
import Derived.Test.YtpoijhjjbmaedaaGreatDoorPlainA
import Derived.Test.YtpoijhjjbmaedaaGreatDoorShelf
import Derived.Shelf.Abstract
import Derived.Shelf.RegionOpen
import Derived.Test.YtpoijhjjbmaedaaGreatDoorManA
import Derived.Test.YtpoijhjjbmaedaaGreatDoorMan5
import Derived.Test.YtpoijhjjbmaedaaGreatDoorBookB
set_option linter.unusedVariables false
set_option linter.unusedSimpArgs false
/- Man6: The lines of a text: manifest.lines and the iterator that it hands back. -/
section
namespace Go.Proofs.YtpoijhjjbmaedaaGreatDoor.Man
open Go.RowKit
attribute [local go_sem] Oper.semAt_some

/-- where the first line of a text ends -/
def cut (s : ByteArray) : Nat := if Lib.indexByte s.data.toList 10 < 0 then s.size else (Lib.indexByte s.data.toList 10).toNat + 1
def lineList : Nat → ByteArray → List ByteArray
  | 0, _ => []
  | f + 1, s => if s.size = 0 then [] else s.extract 0 (cut s) :: lineList f (s.extract (cut s) s.size)
theorem index_room {l : List UInt8} {c : UInt8} {o : Nat} (h : Lib.indexByte l c = o) : o < l.length := by
  have := (Lib.indexByte_some h).1
  rcases Nat.lt_or_ge o l.length with h1 | h1
  · exact h1
  · rw [List.getElem?_eq_none h1] at this; cases this
theorem cut_pos (s : ByteArray) (h : s.size ≠ 0) : 1 ≤ cut s ∧ cut s ≤ s.size := by
  unfold cut
  split
  · omega
  · have hge := Lib.indexByte_ge s.data.toList 10
    have := index_room (l := s.data.toList) (c := 10) (o := (Lib.indexByte s.data.toList 10).toNat) (by omega)
    rw [← Lib.size_eq] at this
    omega
theorem lineList_len : ∀ (f : Nat) (s : ByteArray), (lineList f s).length ≤ f
  | 0, _ => Nat.le_refl _
  | f + 1, s => by
    unfold lineList
    split
    · simp
    · have := lineList_len f (s.extract (cut s) s.size)
      simp; omega
theorem lineList_fuel : ∀ (f g : Nat) (s : ByteArray), s.size ≤ f → s.size ≤ g → lineList f s = lineList g s
  | 0, 0, _, _, _ => rfl
  | 0, g + 1, s, h, _ => by unfold lineList; rw [if_pos (by omega)]
  | f + 1, 0, s, _, h => by unfold lineList; rw [if_pos (by omega)]
  | f + 1, g + 1, s, h1, h2 => by
    unfold lineList
    split
    · rfl
    · rename_i h
      have := cut_pos s h
      rw [lineList_fuel f g _ (by rw [ByteArray.size_extract]; omega) (by rw [ByteArray.size_extract]; omega)]
def linesB (s : ByteArray) : List ByteArray := lineList s.size s
theorem linesB_nil (s : ByteArray) (h : s.size = 0) : linesB s = [] := by unfold linesB; rw [h]; rfl
theorem linesB_cons (s : ByteArray) (h : s.size ≠ 0) : linesB s = s.extract 0 (cut s) :: linesB (s.extract (cut s) s.size) := by
  have hc := cut_pos s h
  unfold linesB
  rw [lineList_fuel s.size (s.size + 1) s (Nat.le_refl _) (by omega)]
  conv => lhs; unfold lineList
  rw [if_neg h, lineList_fuel s.size (s.extract (cut s) s.size).size _ (by rw [ByteArray.size_extract]; omega) (Nat.le_refl _)]
def numbered : Nat → List ByteArray → List (Nat × ByteArray)
  | _, [] => []
  | k, x :: l => (k, x) :: numbered (k + 1) l
theorem numbered_len : ∀ (k : Nat) (l : List ByteArray), (numbered k l).length = l.length
  | _, [] => rfl
  | k, x :: l => by simp [numbered, numbered_len (k + 1) l]

/-- a line as the loop is handed it -/
abbrev NL := { x : Nat × ByteArray // x.1 ≤ 30000 ∧ x.2.size ≤ 25000 }
def encL (x : NL) : Array Value := #[.int .i64 x.1.1, .string x.1.2]
def KpS (sb : Nat) (A B : World) : Prop := B.heap[sb]? = A.heap[sb]?
theorem cell_of_heap {A B : World} {sb : Nat} (h : KpS sb A B) (o : Nat) : B.cell? ⟨sb, o, none⟩ = A.cell? ⟨sb, o, none⟩ ∧ B.frozen? ⟨sb, o, none⟩ = A.frozen? ⟨sb, o, none⟩ := by
  have h' : B.heap[sb]? = A.heap[sb]? := h
  simp [World.cell?, World.frozen?, h']
def leftS (sb : Nat) (W : World) : Nat := match W.cell? ⟨sb, 0, none⟩ with
  | some (.string s) => s.size
  | _ => 0
theorem leftS_eq {sb : Nat} {W : World} {s : ByteArray} (h : W.cell? ⟨sb, 0, none⟩ = some (.string s)) : leftS sb W = s.size := by unfold leftS; rw [h]

set_option maxRecDepth 100000 in
set_option maxHeartbeats 2000000 in
theorem lines1_in (n : Nat) (hn : 2 ≤ n) (l sb : Nat) (s : ByteArray) (hs : s.size ≤ 25000) (J Jx : List NL → World → Prop) (hJs : ∀ pre W v, J pre W → J pre (W.setCell ⟨sb, 0, none⟩ v))
    (hY : ∀ pre x W, J pre W → pre.length < (linesB s).length → YieldAt Fence.wide (n - 1) Tryz.prog l (encL x) W fun e W' =>
      (e = .returned (.bool true) ∧ J (pre ++ [x]) W' ∧ KpS sb W W') ∨ (e = .returned (.bool false) ∧ Jx (pre ++ [x]) W'))
    (W : World) (hA : Arr W sb 9 #[.string s]) (h0 : J [] W) :
    CallsIn Fence.wide n Tryz.prog 97 #[.func (.yield l) #[] #[], .pointer (some ⟨sb, 0, none⟩)] W fun e W' => (∃ v, e = .returned v) ∧
      ((∃ ys : List NL, ys.map (·.1) = numbered 1 (linesB s) ∧ J ys W') ∨ (∃ pre : List NL, pre.map (·.1) <+: numbered 1 (linesB s) ∧ Jx pre W')) := by
  refine callsIn_of_wp Tryz.func97 rfl trivial ?_ rfl
  simp only [Tryz.ntmps97, List.size_toArray, List.length_cons, List.length_nil, Nat.reduceAdd, Nat.reduceSub, Array.replicate_succ, Array.replicate_zero, List.push_toArray, List.append_toArray, List.nil_append, List.cons_append]
  gi_wp2
  gi_loopw [3] (fun p wr => ∃ (k : Nat) (pre : List NL) (t : ByteArray), p = .int .i64 ((k : Int) + 1) ∧ pre.length = k ∧ numbered 1 (linesB s) = pre.map (·.1) ++ numbered (k + 1) (linesB t) ∧ t.size ≤ s.size - k ∧ Arr wr sb 9 #[.string t] ∧ J pre wr)
    (fun _ wr => leftS sb wr)
  case atStart =>
    exact ⟨0, [], s, rfl, rfl, rfl, by omega, hA, h0⟩
  case round =>
    obtain ⟨k, pre, t, rfl, hk, hx, ht, hAr, hJ⟩ := hrel
    have hc0 : wr.cell? ⟨sb, 0, none⟩ = some (.string t) := hAr.cell 0
    by_cases hz : t.size = 0
    · obtain rfl : t = ⟨#[]⟩ := by
        obtain ⟨⟨d⟩⟩ := t
        cases d with
        | nil => rfl
        | cons a d => simp [ByteArray.size] at hz
      gi_wp2
      go_end0
      exact ⟨⟨_, rfl⟩, .inl ⟨pre, by rw [hx, linesB_nil _ rfl]; simp [numbered], hJ⟩⟩
    · have hne : ¬ t.toList = [] := by rw [Lib.toList_data]; intro e; rw [Lib.size_eq, e] at hz; exact hz rfl
      have hneb : (t.toList == []) = false := by simpa using hne
      obtain ⟨i, hi⟩ : ∃ i, Lib.indexByte t.data.toList 10 = i := ⟨_, rfl⟩
      have hcut : cut t = if i < 0 then t.size else i.toNat + 1 := by unfold cut; rw [hi]
      have hIx := fun W => Tryz.strings_IndexByte t 10 W
      rw [show (10 : Int).toNat.toUInt8 = 10 from rfl, hi] at hIx
      have hge := Lib.indexByte_ge t.data.toList 10
      have hcp := cut_pos t hz
      rw [hi] at hge
      have hx' := hx
      rw [linesB_cons t hz] at hx'
      have hlen : pre.length < (linesB s).length := by
        have := congrArg List.length hx'
        rw [numbered_len, List.length_append, List.length_map, numbered_len] at this
        simp at this; omega
      obtain ⟨fn, tmps, assign, body, hy, hR⟩ := hY pre ⟨(k + 1, t.extract 0 (cut t)), by show k + 1 ≤ 30000; omega, by show (t.extract 0 (cut t)).size ≤ 25000; rw [ByteArray.size_extract]; omega⟩ wr hJ hlen
      dsimp only [encL] at hy
      rw [show ((k + 1 : Nat) : Int) = (k : Int) + 1 from by omega] at hy
      have hts : (t.extract (cut t) t.size).size ≤ s.size - (k + 1) := by rw [ByteArray.size_extract]; omega
      by_cases hi0 : i < 0
      · rw [if_pos hi0] at hcut
        have e1 : t.extract 0 (cut t) = t := by rw [hcut]; simp
        rw [e1] at hy
        gi_wp2_with (refine ⟨trivial, fun h => (nomatch h), ?_⟩; gi_at_call 69; refine (callsIn_wide.2 (hIx _)).mono ?_; rintro e w' ⟨rfl, hw'⟩; subst hw')
        refine ⟨fun h => (nomatch h), hR.mono ?_⟩
        rintro e W3 (⟨rfl, hJ3, hk3⟩ | ⟨rfl, hJx3⟩)
        · have hc3 : W3.cell? ⟨sb, 0, none⟩ = some (.string t) := (cell_of_heap hk3 0).1.trans hc0
          have hA3 : Arr W3 sb 9 #[.string t] := (show W3.heap[sb]? = _ from hk3).trans hAr
          have hf3 : W3.frozen? ⟨sb, 0, none⟩ = false := hA3.mark 0
          gi_wp2
          go_roundw
          case rel =>
            refine ⟨k + 1, _, t.extract (cut t) t.size, by go_num, by rw [List.length_append, hk]; rfl, by rw [hx', List.map_append, List.append_assoc]; rfl, hts, ?_, hJs _ _ _ hJ3⟩
            rw [hcut]
            simpa using hA3.put 0 _
          case measure =>
            rw [leftS_eq hc0]
            unfold leftS
            rw [World.cell?_setCell_same' _ _ _ (by rw [hc3]; rfl)]
            simp; omega
        · gi_wp2
          refine bodyPost_ret (results_none rfl _ _ _) rfl ?_
          exact ⟨⟨_, rfl⟩, .inr ⟨_, ⟨numbered (k + 1 + 1) (linesB (t.extract (cut t) t.size)), by rw [hx', List.map_append]; simp [numbered]⟩, hJx3⟩⟩
      · rw [if_neg hi0] at hcut
        obtain ⟨o, rfl⟩ : ∃ o : Nat, i = (o : Int) := ⟨i.toNat, by omega⟩
        have hcut' : cut t = o + 1 := by rw [hcut]; omega
        have hob : (o : Int) + 1 ≤ (t.size : Int) := by omega
        rw [hcut'] at hy hts
        gi_wp2_with (refine ⟨trivial, fun h => (nomatch h), ?_⟩; gi_at_call 69; refine (callsIn_wide.2 (hIx _)).mono ?_; rintro e w' ⟨rfl, hw'⟩; subst hw')
        refine ⟨fun h => (nomatch h), hR.mono ?_⟩
        rintro e W3 (⟨rfl, hJ3, hk3⟩ | ⟨rfl, hJx3⟩)
        · have hc3 : W3.cell? ⟨sb, 0, none⟩ = some (.string t) := (cell_of_heap hk3 0).1.trans hc0
          have hA3 : Arr W3 sb 9 #[.string t] := (show W3.heap[sb]? = _ from hk3).trans hAr
          have hf3 : W3.frozen? ⟨sb, 0, none⟩ = false := hA3.mark 0
          gi_wp2
          go_roundw
          case rel =>
            refine ⟨k + 1, _, t.extract (o + 1) t.size, by go_num, by rw [List.length_append, hk]; rfl, by rw [hx', List.map_append, List.append_assoc, ← hcut']; rfl, hts, ?_, hJs _ _ _ hJ3⟩
            simpa using hA3.put 0 _
          case measure =>
            rw [leftS_eq hc0]
            unfold leftS
            rw [World.cell?_setCell_same' _ _ _ (by rw [hc3]; rfl)]
            simp; omega
        · gi_wp2
          refine bodyPost_ret (results_none rfl _ _ _) rfl ?_
          exact ⟨⟨_, rfl⟩, .inr ⟨_, ⟨numbered (k + 1 + 1) (linesB (t.extract (cut t) t.size)), by rw [hx', List.map_append]; simp [numbered]⟩, hJx3⟩⟩

set_option maxHeartbeats 1000000 in
theorem lines_in (s : ByteArray) (w : World) :
    Calls Tryz.prog 58 #[.string s] w fun e w' => e = .returned (.func (.func 97) #[] #[.pointer (some ⟨w.heap.size, 0, none⟩)]) ∧ w' = w.alloc (.cells #[.string s] 9) := by
  go_enter Tryz.func58, Tryz.ntmps58
  go_wp2_with fail
  go_ret
  exact ⟨rfl, rfl⟩

theorem lines_stops (n : Nat) (hn : 2 ≤ n) (sb : Nat) (s : ByteArray) (hs : s.size ≤ 25000) (w : World) (hA : Arr w sb 9 #[.string s]) :
    SeqStopsS Fence.wide n Tryz.prog 97 #[.pointer (some ⟨sb, 0, none⟩)] encL (KpS sb) sb (fun ys : List NL => ys.map (·.1) = numbered 1 (linesB s)) (fun pre : List NL => pre.map (·.1) <+: numbered 1 (linesB s)) (linesB s).length w := fun l J Jx W hW _ _ hJs hY h0 =>
  lines1_in n hn l sb s hs J Jx hJs hY W (hA.keep hW) h0

end Go.Proofs.YtpoijhjjbmaedaaGreatDoor.Man
end

/- Man7: manifest.Parse: a text's lines read. -/
section
namespace Go.Proofs.YtpoijhjjbmaedaaGreatDoor.Man
open Go.RowKit
attribute [local go_sem] Oper.semAt_some

/-- what came so far reads as the lines ls -/
def goods (pre : List NL) (ls : List Ln) : Prop := pre.map (fun x => readV x.1.2) = ls.map some
theorem goods_len {pre : List NL} {ls : List Ln} (h : goods pre ls) : ls.length = pre.length := by
  have := congrArg List.length h
  simpa using this.symm
theorem goods_snoc {pre : List NL} {ls : List Ln} (h : goods pre ls) {x : NL} {y : Ln} (hy : readV x.1.2 = some y) : goods (pre ++ [x]) (ls ++ [y]) := by
  unfold goods at *; rw [List.map_append, List.map_append, h]; simp [hy]
theorem numbered_snd : ∀ (k : Nat) (l : List ByteArray), (numbered k l).map (·.2) = l
  | _, [] => rfl
  | k, x :: l => by simp [numbered, numbered_snd (k + 1) l]
theorem numbered_cut : ∀ (k : Nat) (l : List ByteArray) (p : List (Nat × ByteArray)) (x : Nat × ByteArray) (r : List (Nat × ByteArray)), numbered k l = p ++ x :: r → x.1 = k + p.length ∧ l = p.map (·.2) ++ x.2 :: r.map (·.2) := by
  intro k l p x r h
  have h2 := congrArg (List.map (·.2)) h
  rw [numbered_snd, List.map_append, List.map_cons] at h2
  refine ⟨?_, h2⟩
  clear h2
  induction p generalizing k l with
  | nil =>
    cases l with
    | nil => simp [numbered] at h
    | cons a l => simp only [numbered, List.nil_append, List.cons.injEq] at h; rw [← h.1]; simp
  | cons q p ih =>
    cases l with
    | nil => simp [numbered] at h
    | cons a l =>
      simp only [numbered, List.cons_append, List.cons.injEq] at h
      have := ih (k + 1) l h.2
      rw [this]; simp; omega
def ParseOut (s : ByteArray) (w : World) (e : Ending) (w' : World) : Prop :=
  ((∃ (ls : List Ln) (v : Value), (linesB s).map readV = ls.map some ∧ e = .returned (.tuple #[v, .int .i64 0, .int .i64 0]) ∧ RowIn (fun k => w.heap.size ≤ k) w' 74 3 v ls.length (rowC ls)) ∨
    (∃ (p : List ByteArray) (x : ByteArray) (r : List ByteArray) (ls : List Ln), linesB s = p ++ x :: r ∧ p.map readV = ls.map some ∧ readV x = none ∧ e = .returned (.tuple #[.slice none 0 0, .int .i64 ((p.length : Int) + 1), .int .i64 150]))) ∧ Below w.heap.size w w'

set_option maxRecDepth 100000 in
set_option maxHeartbeats 2000000 in
theorem Parse_in (s : ByteArray) (m : Int) (w : World) (hs : s.size ≤ 25000) (hev : Cab.EV w) (ht : Cod.Tab w) (hm : w.cell? ⟨1, 0, none⟩ = some (.int .i64 m)) :
    Calls Tryz.prog 23 #[.string s] w (ParseOut s w) := by
  obtain ⟨i0, hi, hz0, hz1, hz2⟩ := info_parts line_info
  have hread := fun (t : ByteArray) (W : World) (hb : Below w.heap.size w W) (h2 : t.size ≤ 25000) => read_in t m W h2 (hev.keep hb) (ht.keep hb) ((hb.cell (p := ⟨1, 0, none⟩) (block_lt_of_cell hm)).trans hm)
  have HRD := Lib.hid hread
  clear hread hev ht hm
  refine (callsIn_wide (n := 9)).1 ?_
  refine callsIn_of_wp_marks Tryz.func23 rfl trivial ?_ rfl
  simp only [Tryz.ntmps23, List.size_toArray, List.length_cons, List.length_nil, Nat.reduceAdd, Nat.reduceSub, Array.replicate_succ, Array.replicate_zero, List.push_toArray, List.append_toArray, List.nil_append, List.cons_append]
  gi_wp2_with (refine ⟨trivial, ?_⟩; gi_at_call 58; refine (callsIn_wide.2 (lines_in s _)).mono ?_; rintro e w' ⟨rfl, rfl⟩)
  -- the five blocks
  obtain ⟨wa, hwa⟩ : ∃ wa, w.alloc (.cells #[.slice none 0 0] 39) = wa := ⟨_, rfl⟩
  have sA : wa.heap.size = w.heap.size + 1 := by rw [← hwa]; simp
  have A0 : Arr wa w.heap.size 39 #[.slice none 0 0] := by rw [← hwa]; exact Arr.fresh _ _ _
  have BA : Below w.heap.size w wa := by rw [← hwa]; exact ext_alloc (Below.refl _ _) _
  rw [hwa]
  obtain ⟨wb, hwb⟩ : ∃ wb, wa.alloc (.cells #[.int .i64 0] 3) = wb := ⟨_, rfl⟩
  have sB : wb.heap.size = w.heap.size + 1 + 1 := by rw [← hwb]; simp [sA]
  have A1 : Arr wb (w.heap.size + 1) 3 #[.int .i64 0] := by rw [← hwb, ← sA]; exact Arr.fresh _ _ _
  have BB : Below w.heap.size w wb := by rw [← hwb]; exact ext_alloc BA _
  replace A0 : Arr wb w.heap.size 39 #[.slice none 0 0] := by rw [← hwb]; exact A0.alloc _
  rw [hwb]
  obtain ⟨wc, hwc⟩ : ∃ wc, wb.alloc (.cells #[.int .i64 0] 30) = wc := ⟨_, rfl⟩
  have sC : wc.heap.size = w.heap.size + 1 + 1 + 1 := by rw [← hwc]; simp [sB]
  have A2 : Arr wc (w.heap.size + 1 + 1) 30 #[.int .i64 0] := by rw [← hwc, ← sB]; exact Arr.fresh _ _ _
  have BC : Below w.heap.size w wc := by rw [← hwc]; exact ext_alloc BB _
  replace A0 : Arr wc w.heap.size 39 #[.slice none 0 0] := by rw [← hwc]; exact A0.alloc _
  replace A1 : Arr wc (w.heap.size + 1) 3 #[.int .i64 0] := by rw [← hwc]; exact A1.alloc _
  rw [hwc]
  obtain ⟨wd, hwd⟩ : ∃ wd, wc.alloc (.cells #[.slice none 0 0] 39) = wd := ⟨_, rfl⟩
  have sD : wd.heap.size = w.heap.size + 1 + 1 + 1 + 1 := by rw [← hwd]; simp [sC]
  have A3 : Arr wd (w.heap.size + 1 + 1 + 1) 39 #[.slice none 0 0] := by rw [← hwd, ← sC]; exact Arr.fresh _ _ _
  have BD : Below w.heap.size w wd := by rw [← hwd]; exact ext_alloc BC _
  replace A0 : Arr wd w.heap.size 39 #[.slice none 0 0] := by rw [← hwd]; exact A0.alloc _
  replace A1 : Arr wd (w.heap.size + 1) 3 #[.int .i64 0] := by rw [← hwd]; exact A1.alloc _
  replace A2 : Arr wd (w.heap.size + 1 + 1) 30 #[.int .i64 0] := by rw [← hwd]; exact A2.alloc _
  rw [hwd]
  obtain ⟨W0, hW0⟩ : ∃ W0, wd.alloc (.cells #[.string s] 9) = W0 := ⟨_, rfl⟩
  have sE : W0.heap.size = w.heap.size + 1 + 1 + 1 + 1 + 1 := by rw [← hW0]; simp [sD]
  have A4 : Arr W0 (w.heap.size + 1 + 1 + 1 + 1) 9 #[.string s] := by rw [← hW0, ← sD]; exact Arr.fresh _ _ _
  have BE : Below w.heap.size w W0 := by rw [← hW0]; exact ext_alloc BD _
  replace A0 : Arr W0 w.heap.size 39 #[.slice none 0 0] := by rw [← hW0]; exact A0.alloc _
  replace A1 : Arr W0 (w.heap.size + 1) 3 #[.int .i64 0] := by rw [← hW0]; exact A1.alloc _
  replace A2 : Arr W0 (w.heap.size + 1 + 1) 30 #[.int .i64 0] := by rw [← hW0]; exact A2.alloc _
  replace A3 : Arr W0 (w.heap.size + 1 + 1 + 1) 39 #[.slice none 0 0] := by rw [← hW0]; exact A3.alloc _
  rw [hW0]
  clear hwa hwb hwc hwd hW0 sA sB sC sD BA BB BC BD
  obtain ⟨b0, hb0⟩ : ∃ b0, w.heap.size = b0 := ⟨_, rfl⟩
  rw [hb0] at sE A0 A1 A2 A3 A4 BE ⊢
  have HB0 := Lib.hid hb0
  clear hb0
  obtain ⟨b1, hb1⟩ : ∃ b1, b0 + 1 = b1 := ⟨_, rfl⟩
  rw [hb1] at sE A1 A2 A3 A4 ⊢
  obtain ⟨b2, hb2⟩ : ∃ b2, b1 + 1 = b2 := ⟨_, rfl⟩
  rw [hb2] at sE A2 A3 A4 ⊢
  obtain ⟨ob, hob⟩ : ∃ ob, b2 + 1 = ob := ⟨_, rfl⟩
  rw [hob] at sE A3 A4 ⊢
  obtain ⟨sb, hsb⟩ : ∃ sb, ob + 1 = sb := ⟨_, rfl⟩
  rw [hsb] at sE A4 ⊢
  have HA := Lib.hid A0
  have n01 : b0 < b1 := by omega
  have n12 : b1 < b2 := by omega
  have n2o : b2 < ob := by omega
  have nos : ob < sb := by omega
  clear hb1 hb2 hob hsb
  refine wpIn_rangeFunc_ownS (n := 9) rfl (by decide) (gf := 97) (lb := #[.pointer (some ⟨sb, 0, none⟩)]) rfl trivial (enters_of Tryz.func97 (by kernel_rfl) rfl) (sb := sb) (by omega)
    (lines_stops 8 (by omega) sb s hs W0 A4) (fun h k => k.trans h) (fun W l o o' hl h hc hw => World.putObj_heap_other (by omega)) (Below.refl _ _) (fun _ => rfl)
    (fun pre W => ∃ v ls, goods pre ls ∧ Arr W ob 39 #[v] ∧ RowIn (fun j => sb < j) W 74 3 v ls.length (rowC ls) ∧ Arr W b0 39 #[.slice none 0 0] ∧ Arr W b1 3 #[.int .i64 0] ∧ Arr W b2 30 #[.int .i64 0] ∧ Below b0 w W)
    (fun c pre W => c = .ret ∧ ∃ p x ls, pre = p ++ [x] ∧ goods p ls ∧ readV x.1.2 = none ∧ Arr W b0 39 #[.slice none 0 0] ∧ Arr W b1 3 #[.int .i64 x.1.1] ∧ Arr W b2 30 #[.int .i64 150] ∧ Below b0 w W)
    (fun s A B row ⟨v, ls, hg, h1, h2, h3, h4, h5, h6⟩ hgr hr => ⟨v, ls, hg, arr_ownFrom _ _ _ (fun _ : Unit => _) () A B row h1 hgr hr, row_ownFrom _ _ _ _ (fun _ : Unit => _) (fun _ => _) (fun _ => _) () A B row h2 hgr hr,
      arr_ownFrom _ _ _ (fun _ : Unit => _) () A B row h3 hgr hr, arr_ownFrom _ _ _ (fun _ : Unit => _) () A B row h4 hgr hr, arr_ownFrom _ _ _ (fun _ : Unit => _) () A B row h5 hgr hr, h6.grown hgr (by have := h3.lt; omega) (fun k e => by have := (hr k e).1; omega)⟩)
    (fun s W v ⟨v', ls, hg, h1, h2, h3, h4, h5, h6⟩ => ⟨v', ls, hg, h1.other (by show ob ≠ sb; omega) _, h2.put (fun g hgb => by have := h2.block g hgb; show sb ≠ g; omega) _, h3.other (by show b0 ≠ sb; omega) _, h4.other (by show b1 ≠ sb; omega) _, h5.other (by show b2 ≠ sb; omega) _, h6.setCell (by show b0 ≤ sb; omega) _⟩)
    (fun c s A B row ⟨hc, p, x, ls, hp, hg, hx, h3, h4, h5, h6⟩ hgr hr => ⟨hc, p, x, ls, hp, hg, hx, 
      arr_ownFrom _ _ _ (fun _ : Unit => _) () A B row h3 hgr hr, arr_ownFrom _ _ _ (fun _ : Unit => _) () A B row h4 hgr hr, arr_ownFrom _ _ _ (fun _ : Unit => _) () A B row h5 hgr hr, h6.grown hgr (by have := h3.lt; omega) (fun k e => by have := (hr k e).1; omega)⟩)
    ⟨_, [], rfl, A3, RowIn.nil _ _ _ _ _, A0, A1, A2, BE⟩
    (fun x a' _ => a' = { tmps := #[.string s, undef, .pointer (some ⟨b0, 0, none⟩), .pointer (some ⟨b1, 0, none⟩), .pointer (some ⟨b2, 0, none⟩), .pointer (some ⟨ob, 0, none⟩), .int .i64 x.1.1, .string x.1.2, undef, undef, .string s, .func (.func 97) #[] #[.pointer (some ⟨sb, 0, none⟩)], .int .i64 x.1.1, .string x.1.2, undef, undef, undef, undef, undef, undef, undef, undef, undef, undef, undef, undef, undef], defers := [] })
    (fun _ _ _ _ _ _ hs _ _ => hs) ?assign ?body ?done ?stop
  case assign =>
    intro l pre x W K hi hK
    have hKK := hK _ W (KeepsFrom.refl _ _) rfl hi rfl
    dsimp only [encL]
    gi_wp2
    exact hKK
  case body =>
    rintro l pre x a' W hl hr ⟨v, ls, hg, h1, h2, h3, h4, h5, h6⟩ rfl hlt
    clear A0 A1 A2 A3 BE HA
    have hWb : Below w.heap.size w W := by rw [HB0.out]; exact h6
    have HWB := Lib.hid hWb
    have hgl := goods_len hg
    have hnl := lineList_len s.size s
    have HLT := Lib.hid (show ls.length ≤ 25000 by have h7 : (linesB s).length ≤ s.size := hnl; omega)
    cases hrv : readV x.1.2
    case none =>
      have HC : CallsIn (Fence.wide.inRound l) 6 Tryz.prog 59 #[.string x.1.2] W fun e w' => ∃ a b c, e = .returned (.tuple #[.agg #[.string a, .string b, .bool c], .bool false]) ∧ Below W.heap.size W w' :=
        CallsIn.inRound l (callsIn_wide.2 ((HRD.out x.1.2 W hWb x.2.2).mono (by
          rintro e w' ⟨⟨y, rfl, _⟩, hb⟩
          rw [hrv]
          exact ⟨_, _, _, rfl, hb⟩)))
      have HX := Lib.hid hrv
      clear hrv hWb
      gi_wp2_with (refine ⟨trivial, ?_⟩; gi_at_call 59; refine HC.mono ?_; rintro e W2 ⟨qa, qb, qc, rfl, hb2⟩; have k0 := (h3.keep hb2).alloc (.cells #[.string qa, .string qb, .bool qc] 74); have k1 := (h4.keep hb2).alloc (.cells #[.string qa, .string qb, .bool qc] 74); have k2 := (h5.keep hb2).alloc (.cells #[.string qa, .string qb, .bool qc] 74); have m1 := k1.other (p := ⟨b0, 0, none⟩) (by show b1 ≠ b0; omega) (.slice none 0 0); have m2 := (k2.other (p := ⟨b0, 0, none⟩) (by show b2 ≠ b0; omega) (.slice none 0 0)).other (p := ⟨b1, 0, none⟩) (by show b2 ≠ b1; omega) (.int .i64 x.1.1); have c0 : (W2.alloc (.cells #[.string qa, .string qb, .bool qc] 74)).cell? ⟨b0, 0, none⟩ = some (.slice none 0 0) := k0.cell 0; have f0 := k0.mark 0; have c1 : ((W2.alloc (.cells #[.string qa, .string qb, .bool qc] 74)).setCell ⟨b0, 0, none⟩ (.slice none 0 0)).cell? ⟨b1, 0, none⟩ = some (.int .i64 0) := m1.cell 0; have f1 := m1.mark 0; have c2 : (((W2.alloc (.cells #[.string qa, .string qb, .bool qc] 74)).setCell ⟨b0, 0, none⟩ (.slice none 0 0)).setCell ⟨b1, 0, none⟩ (.int .i64 x.1.1)).cell? ⟨b2, 0, none⟩ = some (.int .i64 0) := m2.cell 0; have f2 := m2.mark 0)
      have hb3 := ext_alloc hb2 (.cells #[.string qa, .string qb, .bool qc] 74)
      refine ⟨(Below.keepsFrom hb3 _).trans ((((KeepsOthers.setCell _ _ _).trans (KeepsOthers.setCell _ _ _)).trans (KeepsOthers.setCell _ _ _)).from _), rfl, pre, x, ls, rfl, hg, HX.out, ?_, ?_, m2.put 0 _, ?_⟩
      · exact ((k0.put 0 (.slice none 0 0)).other (by show b0 ≠ b1; omega) _).other (by show b0 ≠ b2; omega) _
      · exact (m1.put 0 (.int .i64 x.1.1)).other (by show b1 ≠ b2; omega) _
      · exact (((h6.trans (hb3.mono (by have h7 := h6.size; have h8 := HB0.out; omega))).setCell (p := ⟨b0, 0, none⟩) (Nat.le_refl _) _).setCell (p := ⟨b1, 0, none⟩) (by show b0 ≤ b1; omega) _).setCell (p := ⟨b2, 0, none⟩) (by show b0 ≤ b2; omega) _
    case some y =>
      have HC : CallsIn (Fence.wide.inRound l) 6 Tryz.prog 59 #[.string x.1.2] W fun e w' => e = .returned (.tuple #[.agg #[.string y.seat, .string y.code, .bool y.held], .bool true]) ∧ Below W.heap.size W w' :=
        CallsIn.inRound l (callsIn_wide.2 ((HRD.out x.1.2 W hWb x.2.2).mono (by
          rintro e w' ⟨⟨y', rfl, hy⟩, hb⟩
          rw [hy y hrv, hrv]
          exact ⟨rfl, hb⟩)))
      have HX := Lib.hid hrv
      clear hrv hWb
      have HL1 := Lib.hid (lineL_one y)
      have hsW : sb < W.heap.size := by obtain ⟨r, hr⟩ := hr; have := (Array.getElem?_eq_some_iff.1 hr).1; omega
      clear hgl hnl
      have HB6 := Lib.hid h6
      have HK0 := Lib.hid h3; have HK1 := Lib.hid h4; have HK2 := Lib.hid h5; have HR := Lib.hid h2; have HO := Lib.hid h1
      clear h6 h3 h4 h5 h2 h1
      gi_wp2_with (first | (refine ⟨trivial, ?_⟩; gi_at_call 59; refine HC.mono ?_; rintro e W2 ⟨rfl, hb2⟩; have hB3 := ext_alloc hb2 (.cells #[.string y.seat, .string y.code, .bool y.held] 74); have hB4 := ext_alloc hB3 (.cells #[.string y.seat, .string y.code, .bool y.held] 74); have hR4 := HR.out.keep hB4; have hO4 := HO.out.keep hB4; have c0 : ((W2.alloc (.cells #[.string y.seat, .string y.code, .bool y.held] 74))).cell? ⟨ob, 0, none⟩ = some v := (HO.out.keep hB3).cell 0; have hNW := news_any (W2.alloc (.cells #[.string y.seat, .string y.code, .bool y.held] 74)) (lineL y) 74; rw [World.size_alloc] at hNW; have HNW := Lib.hid hNW; clear hNW; have HB4 := Lib.hid hB4; have HR4 := Lib.hid hR4; have HO4 := Lib.hid hO4; clear hB3 hB4 hR4 hO4) | (gi_at_builtin; refine wpListIn_append_elem _ rfl _ _ 39 rfl 74 i0 (.agg #[.string ⟨#[]⟩, .string ⟨#[]⟩, .bool false]) 3 40 Tryz.underlying39 hi hz0 hz1 hz2 rfl (by decide) v ls.length (rowC ls) rfl HR4.out ⟨W2.heap.size + 1, 0, none⟩ 1 (lineL y) rfl rfl HNW.out HL1.out (by have := HLT.out; unfold maxLen; omega) (by have := HLT.out; omega) ?_; intro g2 cp2 w5 hr5 hg5; have hO5 := HO4.out.grownTo hg5 (fun e => by have := HR4.out.block ob e; omega); have c5 : w5.cell? ⟨ob, 0, none⟩ = some v := hO5.cell 0; have f5 := hO5.mark 0; have HR5 := Lib.hid hr5; have HG5 := Lib.hid hg5; have HO5 := Lib.hid hO5; clear hr5 hg5 hO5))
      have hnb : ∀ b, b < sb → ∀ (t : TypeId) (cs : Array Value), Arr W b t cs → b ≠ ob → Arr (w5.setCell ⟨ob, 0, none⟩ (.slice (some ⟨g2, 0, none⟩) (ls.length + 1) cp2)) b t cs := fun b hb t cs h hne =>
        ((h.keep HB4.out).grownTo HG5.out (fun e => by have := HR4.out.block b e; omega)).other (by show b ≠ ob; exact hne) _
      refine ⟨((Below.keepsFrom HB4.out _).trans ((KeepsOthers.of_grownBy HG5.out (fun j o e ho => HR4.out.cells e ho)).from _)).trans ((KeepsOthers.setCell _ _ _).from _), ?_, _, ls ++ [y], goods_snoc hg HX.out, HO5.out.put 0 _, ?_, ?_, ?_, ?_, ?_⟩
      · exact ((Below.heap_setCell w5 ⟨ob, 0, none⟩ _ sb (by show sb ≠ ob; omega)).trans (HG5.out.block sb (by have := HB4.out.size; omega) (fun e => by have := HR4.out.block sb e.symm; omega))).trans (HB4.out.block sb hsW)
      · have h7 := HR5.out.put (q := ⟨ob, 0, none⟩) (fun g hg2 => by
          have h8 := HR5.out.block g hg2
          have h9 := HB4.out.size
          show ob ≠ g
          rcases h8 with h8 | h8
          · omega
          · rw [h8]; omega) (.slice (some ⟨g2, 0, none⟩) (ls.length + 1) cp2)
        rw [rowC_snoc] at h7
        rw [List.length_append]
        exact h7.mono (fun g hg2 _ => by
          have h9 := HB4.out.size
          rcases hg2 with h8 | h8
          · exact h8
          · show sb < g
            rw [h8]; omega)
      · exact hnb b0 (by omega) _ _ HK0.out (by omega)
      · exact hnb b1 (by omega) _ _ HK1.out (by omega)
      · exact hnb b2 (by omega) _ _ HK2.out (by omega)
      · have h7 : Below b0 w _ := HB6.out.trans (HB4.out.mono (by have h7 := HB6.out.size; have h8 := HB0.out; omega))
        exact (h7.grown HG5.out (by have h7 := HB6.out.size; have h8 := HB0.out; have h9 := HB4.out.size; omega) (fun k e => by have := HR4.out.block k e; omega)).setCell (p := ⟨ob, 0, none⟩) (by show b0 ≤ ob; omega) _
  case done =>
    rintro D xs W hD hxs ⟨v, ls, hg, h1, h2, h3, h4, h5, h6⟩ hK
    obtain ⟨VA, vc, rfl⟩ := h2.any
    have hgo : (linesB s).map readV = ls.map some := by
      have h7 : xs.map (fun x => readV x.1.2) = ls.map some := hg
      rw [← h7, ← numbered_snd 1 (linesB s), ← hxs]; simp
    have c0 : W.cell? ⟨b0, 0, none⟩ = some (.slice none 0 0) := h3.cell 0
    have f0 := h3.mark 0
    have m0 := h3.put 0 (.slice VA ls.length vc)
    have m1 := h4.other (p := ⟨b0, 0, none⟩) (by show b1 ≠ b0; omega) (.slice VA ls.length vc)
    have m2 := (h5.other (p := ⟨b0, 0, none⟩) (by show b2 ≠ b0; omega) (.slice VA ls.length vc)).other (p := ⟨b1, 0, none⟩) (by show b2 ≠ b1; omega) (.int .i64 0)
    have c1 : (W.setCell ⟨b0, 0, none⟩ (.slice VA ls.length vc)).cell? ⟨b1, 0, none⟩ = some (.int .i64 0) := m1.cell 0
    have f1 := m1.mark 0
    have c2 : ((W.setCell ⟨b0, 0, none⟩ (.slice VA ls.length vc)).setCell ⟨b1, 0, none⟩ (.int .i64 0)).cell? ⟨b2, 0, none⟩ = some (.int .i64 0) := m2.cell 0
    have f2 := m2.mark 0
    have cO : W.cell? ⟨ob, 0, none⟩ = some (.slice VA ls.length vc) := h1.cell 0
    have HR := Lib.hid h2; have HGO := Lib.hid hgo; have H6 := Lib.hid h6
    clear h2 hgo h6
    gi_wp2
    have e0 : Arr (((W.setCell ⟨b0, 0, none⟩ (.slice VA ls.length vc)).setCell ⟨b1, 0, none⟩ (.int .i64 0)).setCell ⟨b2, 0, none⟩ (.int .i64 0)) b0 39 #[.slice VA ls.length vc] := (m0.other (by show b0 ≠ b1; omega) _).other (by show b0 ≠ b2; omega) _
    have e1 : Arr (((W.setCell ⟨b0, 0, none⟩ (.slice VA ls.length vc)).setCell ⟨b1, 0, none⟩ (.int .i64 0)).setCell ⟨b2, 0, none⟩ (.int .i64 0)) b1 3 #[.int .i64 0] := (m1.put 0 (.int .i64 0)).other (by show b1 ≠ b2; omega) _
    have e2 : Arr (((W.setCell ⟨b0, 0, none⟩ (.slice VA ls.length vc)).setCell ⟨b1, 0, none⟩ (.int .i64 0)).setCell ⟨b2, 0, none⟩ (.int .i64 0)) b2 30 #[.int .i64 0] := m2.put 0 (.int .i64 0)
    have hr4 := ((HR.out.put (q := ⟨b0, 0, none⟩) (fun g hg2 => by have := HR.out.block g hg2; show b0 ≠ g; omega) (.slice VA ls.length vc)).put (q := ⟨b1, 0, none⟩) (fun g hg2 => by have := HR.out.block g hg2; show b1 ≠ g; omega) (.int .i64 0)).put (q := ⟨b2, 0, none⟩) (fun g hg2 => by have := HR.out.block g hg2; show b2 ≠ g; omega) (.int .i64 0)
    have hk4 : (((W.setCell ⟨b0, 0, none⟩ (.slice VA ls.length vc)).setCell ⟨b1, 0, none⟩ (.int .i64 0)).setCell ⟨b2, 0, none⟩ (.int .i64 0)).heap[D]? = some (.deferred (some [])) :=
      (((Below.heap_setCell _ ⟨b2, 0, none⟩ _ D (by show D ≠ b2; omega)).trans (Below.heap_setCell _ ⟨b1, 0, none⟩ _ D (by show D ≠ b1; omega))).trans (Below.heap_setCell _ ⟨b0, 0, none⟩ _ D (by show D ≠ b0; omega))).trans hK
    have hb4 : Below b0 w (((W.setCell ⟨b0, 0, none⟩ (.slice VA ls.length vc)).setCell ⟨b1, 0, none⟩ (.int .i64 0)).setCell ⟨b2, 0, none⟩ (.int .i64 0)) := ((H6.out.setCell (p := ⟨b0, 0, none⟩) (Nat.le_refl _) _).setCell (p := ⟨b1, 0, none⟩) (by show b0 ≤ b1; omega) _).setCell (p := ⟨b2, 0, none⟩) (by show b0 ≤ b2; omega) _
    obtain ⟨W4, hW4⟩ : ∃ W4, (((W.setCell ⟨b0, 0, none⟩ (.slice VA ls.length vc)).setCell ⟨b1, 0, none⟩ (.int .i64 0)).setCell ⟨b2, 0, none⟩ (.int .i64 0)) = W4 := ⟨_, rfl⟩
    rw [hW4] at e0 e1 e2 hr4 hk4 hb4 ⊢
    have hgp := grownBy_putObj' W4 D (.deferred none)
    replace e0 := e0.grownTo hgp (fun e => by cases e; omega)
    replace e1 := e1.grownTo hgp (fun e => by cases e; omega)
    replace e2 := e2.grownTo hgp (fun e => by cases e; omega)
    replace hr4 := row_ownFrom 0 _ _ _ (fun _ : Unit => _) (fun _ => _) (fun _ => _) () W4 _ (some D) hr4 hgp (fun r e => by cases e; exact ⟨Nat.zero_le _, _, hk4, rfl⟩)
    refine ⟨by simp, .inl ⟨_, _, rfl, run_takeDeferred hk4, ?_⟩⟩
    refine ⟨_, results_cells3 rfl _ rfl rfl rfl (run_load_one 39 e0 _ Tryz.underlying39 rfl) (run_load_one 3 e1 _ Tryz.underlying3 rfl) (run_load_one 30 e2 _ Tryz.underlying30 rfl), .inl ⟨ls, _, HGO.out, rfl, hr4.mono (fun g hg2 _ => by have := HB0.out; show w.heap.size ≤ g; have h9 : sb < g := hg2; omega)⟩, ?_⟩
    have h9 := hb4.grown hgp (by have := hb4.size; have := HB0.out; omega) (fun k e => by cases e; omega)
    rw [← HB0.out] at h9
    exact h9
  case stop =>
    rintro D c pre W hD ⟨r', hpre⟩ ⟨rfl, p, x, ls, rfl, hg, hx, h3, h4, h5, h6⟩ hK
    have hcut := numbered_cut 1 (linesB s) (p.map (·.1)) x.1 r' (by rw [← hpre]; simp)
    gi_wp2
    have hgp := grownBy_putObj' W D (.deferred none)
    have e0 := h3.grownTo hgp (fun e => by cases e; omega)
    have e1 := h4.grownTo hgp (fun e => by cases e; omega)
    have e2 := h5.grownTo hgp (fun e => by cases e; omega)
    refine ⟨by simp, .inl ⟨_, _, rfl, run_takeDeferred hK, ?_⟩⟩
    refine ⟨_, results_cells3 rfl _ rfl rfl rfl (run_load_one 39 e0 _ Tryz.underlying39 rfl) (run_load_one 3 e1 _ Tryz.underlying3 rfl) (run_load_one 30 e2 _ Tryz.underlying30 rfl), .inr ⟨p.map (fun x => x.1.2), x.1.2, r'.map (·.2), ls, by rw [hcut.2, List.map_map]; rfl, by rw [List.map_map]; exact hg, hx, by rw [hcut.1]; simp; omega⟩, ?_⟩
    have h9 := h6.grown hgp (by have := h3.lt; omega) (fun k e => by cases e; omega)
    rw [← HB0.out] at h9
    exact h9

end Go.Proofs.YtpoijhjjbmaedaaGreatDoor.Man
end

/- Man8: Plain laws of a manifest's lines: what the program's reader reads of a text's lines is what is read at places of the text. -/
section
namespace Go.Proofs.YtpoijhjjbmaedaaGreatDoor.Man
open Go.RowKit

def linesL : List UInt8 → List (List UInt8)
  | [] => []
  | x :: r => if x = 10 then [10] :: linesL r else match linesL r with
    | [] => [[x]]
    | a :: ws => (x :: a) :: ws
theorem linesL_ne {l : List UInt8} (h : l ≠ []) : linesL l ≠ [] := by
  cases l with
  | nil => exact absurd rfl h
  | cons x r =>
    unfold linesL
    split
    · simp
    · split <;> simp
theorem linesL_flat : ∀ l, (linesL l).flatten = l
  | [] => rfl
  | x :: r => by
    have ih := linesL_flat r
    unfold linesL
    split
    · rename_i h; subst h; simp [ih]
    · split
      · rename_i h; rw [h] at ih; simp at ih; simp [← ih]
      · rename_i a ws h; rw [h] at ih; simp at ih ⊢; exact ih
theorem linesL_some : ∀ {l t r : List UInt8}, upto 10 l = some (t, r) → linesL l = (t ++ [10]) :: linesL r
  | [], t, r, h => by simp [upto] at h
  | x :: l, t, r, h => by
    unfold upto at h
    by_cases hx : x = 10
    · subst hx
      rw [if_pos rfl] at h
      injection h with h
      injection h with h1 h2
      subst h1 h2
      simp [linesL]
    · rw [if_neg hx] at h
      cases hu : upto 10 l with
      | none => rw [hu] at h; simp at h
      | some p =>
        obtain ⟨t', r'⟩ := p
        rw [hu] at h
        simp at h
        obtain ⟨h1, h2⟩ := h
        subst h1 h2
        rw [linesL, if_neg hx, linesL_some hu]
        rfl
theorem linesL_none : ∀ {l : List UInt8}, (10 : UInt8) ∉ l → l ≠ [] → linesL l = [l]
  | [], _, h => absurd rfl h
  | x :: l, h, _ => by
    simp only [List.mem_cons, not_or] at h
    rw [linesL, if_neg (fun e => h.1 e.symm)]
    by_cases hl : l = []
    · subst hl; rfl
    · rw [linesL_none h.2 hl]
theorem linesL_app : ∀ (a b : List UInt8), (∃ t, a = t ++ [10]) → linesL (a ++ b) = linesL a ++ linesL b
  | [], _, ⟨t, h⟩ => by simp at h
  | x :: a, b, ⟨t, h⟩ => by
    by_cases ha : a = []
    · subst ha
      cases t with
      | nil => simp at h; subst h; simp [linesL]
      | cons y t => simp at h
    · have hx : ∃ t', a = t' ++ [10] := by
        cases t with
        | nil => simp at h; exact absurd h.2 ha
        | cons y t => simp at h; exact ⟨t, h.2⟩
      have ih := linesL_app a b hx
      rw [List.cons_append, linesL, linesL, ih]
      split
      · rfl
      · have hn := linesL_ne ha
        cases hl : linesL a with
        | nil => exact absurd hl hn
        | cons y ys => simp

/-- what is read of one line -/
def readL (l : List UInt8) : Option (List UInt8 × List UInt8 × Bool) :=
  if Lib.hasSuffix l [10] then
    match words (Lib.trimSuffix l [10]) with
    | [a, b, h] => if okA a && (okB b && how h) then some (a, b, h == heldW) else none
    | _ => none
  else none
def trip (x : Ln) : List UInt8 × List UInt8 × Bool := (x.seat.data.toList, x.code.data.toList, x.held)
theorem trip_inj {x y : Ln} (h : trip x = trip y) : x = y := by
  obtain ⟨a, b, c⟩ := x
  obtain ⟨d, e, f⟩ := y
  simp only [trip, Prod.mk.injEq] at h
  obtain ⟨h1, h2, h3⟩ := h
  rw [← mk_data a, ← mk_data b, ← mk_data d, ← mk_data e, h1, h2, h3]
theorem readV_readL (s : ByteArray) : (readV s).map trip = readL s.data.toList := by
  unfold readV readL
  by_cases h : Lib.hasSuffix s.data.toList [10] = true
  · rw [if_pos h, if_pos h]
    have hp := pieces_data ⟨(Lib.trimSuffix s.data.toList [10]).toArray⟩
    rw [show (⟨(Lib.trimSuffix s.data.toList [10]).toArray⟩ : ByteArray).data.toList = Lib.trimSuffix s.data.toList [10] from rfl] at hp
    rw [← hp]
    rcases piecesB ⟨(Lib.trimSuffix s.data.toList [10]).toArray⟩ with _ | ⟨a, _ | ⟨b, _ | ⟨c, _ | ⟨d, r⟩⟩⟩⟩
    · rfl
    · rfl
    · rfl
    · simp only [List.map_cons, List.map_nil]
      split <;> rfl
    · rfl
  · rw [if_neg h, if_neg h]; rfl

theorem index_cons (x c : UInt8) (l : List UInt8) : Lib.indexByte (x :: l) c = if x = c then 0 else if Lib.indexByte l c = -1 then -1 else Lib.indexByte l c + 1 := by
  conv => lhs; unfold Lib.indexByte
  simp only [beq_iff_eq]
def cutL (l : List UInt8) : Nat := if Lib.indexByte l 10 < 0 then l.length else (Lib.indexByte l 10).toNat + 1
theorem linesL_cut : ∀ {l : List UInt8}, l ≠ [] → linesL l = l.take (cutL l) :: linesL (l.drop (cutL l))
  | [], h => absurd rfl h
  | x :: l, _ => by
    have hge := Lib.indexByte_ge l 10
    by_cases hx : x = 10
    · subst hx
      have : cutL (10 :: l) = 1 := by unfold cutL; rw [index_cons, if_pos rfl]; rfl
      rw [this]; simp [linesL]
    · by_cases hl : l = []
      · subst hl
        have : cutL [x] = 1 := by unfold cutL; rw [index_cons, if_neg hx]; rfl
        rw [this]; simp [linesL, hx]
      · have ih := linesL_cut hl
        have hc : cutL (x :: l) = cutL l + 1 := by
          unfold cutL
          rw [index_cons, if_neg hx]
          by_cases hm : Lib.indexByte l 10 = -1
          · rw [if_pos hm, hm]; rfl
          · rw [if_neg hm, if_neg (by omega), if_neg (by omega)]; omega
        rw [hc, linesL, if_neg hx, ih]
        rfl
theorem linesB_L : ∀ (n : Nat) (s : ByteArray), s.size ≤ n → (linesB s).map (·.data.toList) = linesL s.data.toList
  | 0, s, h => by
    rw [linesB_nil s (by omega)]
    have : s.data.toList = [] := List.length_eq_zero_iff.1 (by rw [← Lib.size_eq]; omega)
    rw [this]; rfl
  | n + 1, s, h => by
    by_cases hz : s.size = 0
    · exact linesB_L 0 s (by omega)
    · have hc := cut_pos s hz
      have hne : s.data.toList ≠ [] := fun e => by rw [Lib.size_eq, e] at hz; exact hz rfl
      have e : cut s = cutL s.data.toList := by unfold cut cutL; rw [Lib.size_eq]
      rw [linesB_cons s hz, List.map_cons, linesB_L n _ (by rw [ByteArray.size_extract]; omega), linesL_cut hne, ← e]
      congr 1
      · rw [ByteArray.data_extract]; simp [List.take_eq_take_iff]
      · rw [ByteArray.data_extract]
        congr 1
        simp only [Array.toList_extract]
        rw [List.extract_eq_take_drop, List.take_of_length_le]
        rw [List.length_drop, ← Lib.size_eq]; exact Nat.le_refl _

def sumL : Nat → List (List UInt8) → List (List UInt8 × List UInt8 × Bool) × Nat
  | _, [] => ([], 0)
  | n, x :: r => match readL x with
    | none => ([], n + 1)
    | some y => match sumL (n + 1) r with
      | (ys, 0) => (y :: ys, 0)
      | (_, k + 1) => ([], k + 1)
theorem readP_some {l t r : List UInt8} (h : upto 10 l = some (t, r)) : readP okA okB l = (readL (t ++ [10])).map fun y => (y, r) := by
  unfold readP readL
  rw [h, if_pos ((suffix_iff _).2 ⟨t, rfl⟩), trim_snoc]
  simp only
  split
  · rename_i a b h' hw
    rw [hw]
    simp only
    split <;> rfl
  · rename_i hw
    split
    · rename_i a b h' hw'
      exact absurd hw' (hw a b h')
    · rfl
theorem readL_no {l : List UInt8} (h : (10 : UInt8) ∉ l) : readL l = none := by
  unfold readL
  rw [if_neg]
  intro e
  obtain ⟨t, e⟩ := (suffix_iff _).1 e
  rw [e] at h; simp at h
theorem parse_sum : ∀ (f n : Nat) (l : List UInt8), l.length < f → parse (readP okA okB) f n l = sumL n (linesL l)
  | 0, _, _, h => by omega
  | f + 1, n, [], _ => rfl
  | f + 1, n, x :: l, h => by
    unfold parse
    cases hu : upto 10 (x :: l) with
    | none =>
      have hno := upto_none.1 hu
      rw [linesL_none hno (by simp)]
      have : readP okA okB (x :: l) = none := by unfold readP; rw [hu]
      rw [this]
      simp only [sumL, readL_no hno]
    | some p =>
      obtain ⟨t, r⟩ := p
      rw [linesL_some hu, readP_some hu]
      have hlen : r.length < f := by
        have := congrArg List.length (upto_some.1 hu).1
        simp at this h; omega
      cases hr : readL (t ++ [10]) with
      | none => simp only [sumL, hr, Option.map_none]
      | some y =>
        simp only [sumL, hr, Option.map_some]
        rw [parse_sum f (n + 1) r hlen]
        rcases sumL (n + 1) (linesL r) with ⟨ys, _ | k⟩ <;> rfl
theorem sumL_good : ∀ (n : Nat) (xs : List (List UInt8)) (ys : List (List UInt8 × List UInt8 × Bool)), xs.map readL = ys.map some → sumL n xs = (ys, 0)
  | _, [], [], _ => rfl
  | _, [], _ :: _, h => by simp at h
  | _, _ :: _, [], h => by simp at h
  | n, x :: xs, y :: ys, h => by
    simp only [List.map_cons, List.cons.injEq] at h
    unfold sumL
    rw [h.1]
    simp only
    rw [sumL_good (n + 1) xs ys h.2]
theorem sumL_bad : ∀ (n : Nat) (p : List (List UInt8)) (x : List UInt8) (r : List (List UInt8)) (ys : List (List UInt8 × List UInt8 × Bool)), p.map readL = ys.map some → readL x = none → sumL n (p ++ x :: r) = ([], n + p.length + 1)
  | n, [], x, r, _, _, hx => by simp [sumL, hx]
  | _, _ :: _, _, _, [], h, _ => by simp at h
  | n, q :: p, x, r, y :: ys, h, hx => by
    simp only [List.map_cons, List.cons.injEq] at h
    rw [List.cons_append, sumL, h.1]
    simp only
    rw [sumL_bad (n + 1) p x r ys h.2 hx]
    simp; omega
/-- the program's reading of a text, in plain words -/
theorem good_sum {s : ByteArray} {ls : List Ln} (h : (linesB s).map readV = ls.map some) : sumL 0 (linesL s.data.toList) = (ls.map trip, 0) := by
  refine sumL_good 0 _ _ ?_
  rw [← linesB_L s.size s (Nat.le_refl _), List.map_map, List.map_map]
  have := congrArg (List.map (Option.map trip)) h
  rw [List.map_map, List.map_map] at this
  rw [show readL ∘ (fun x : ByteArray => x.data.toList) = Option.map trip ∘ readV from funext fun x => (readV_readL x).symm, this]
  rfl
theorem bad_sum {s : ByteArray} {p : List ByteArray} {x : ByteArray} {r : List ByteArray} {ls : List Ln} (h : linesB s = p ++ x :: r) (hp : p.map readV = ls.map some) (hx : readV x = none) : sumL 0 (linesL s.data.toList) = ([], p.length + 1) := by
  rw [← linesB_L s.size s (Nat.le_refl _), h, List.map_append, List.map_cons, sumL_bad 0 _ _ _ (ls.map trip) ?_ ?_]
  · simp
  · rw [List.map_map, List.map_map]
    have := congrArg (List.map (Option.map trip)) hp
    rw [List.map_map, List.map_map] at this
    rw [show readL ∘ (fun x : ByteArray => x.data.toList) = Option.map trip ∘ readV from funext fun x => (readV_readL x).symm, this]
    rfl
  · rw [← readV_readL, hx]; rfl

end Go.Proofs.YtpoijhjjbmaedaaGreatDoor.Man
end

/- Man9: The manifest: what is told is read; a book of six seats; Sound. -/
section
namespace Go.Proofs.YtpoijhjjbmaedaaGreatDoor.Man
open Go.RowKit
open Go.Proofs.YtpoijhjjbmaedaaGreatDoor.Bit (hasB)
open Go.Proofs.YtpoijhjjbmaedaaGreatDoor.Bk (BookAt Parts Bkg Raw Raws bookOf)

theorem seat_all : ∀ r : Fin 64, ∀ c : Fin 16, (10 : UInt8) ∉ Cab.seatT r.val c.val ∧ (32 : UInt8) ∉ Cab.seatT r.val c.val := by decide +kernel
theorem okA_ne {a : List UInt8} (h : okA a = true) : (10 : UInt8) ∉ a ∧ (32 : UInt8) ∉ a := by
  obtain ⟨r, c, h1, h2, h3⟩ := okA_yes h
  rw [← h3]
  exact seat_all ⟨r, h1⟩ ⟨c, h2⟩
theorem okA_seat {r c : Nat} (h1 : r < 64) (h2 : c < 16) : okA (Cab.seatT r c) = true := by
  unfold okA
  simp only [List.any_eq_true, List.mem_range, beq_iff_eq]
  exact ⟨r, h1, c, h2, rfl⟩
theorem ltB_all2 : ∀ w : Fin 32, Cod.ltB w.val ≠ 10 ∧ Cod.ltB w.val ≠ 32 := by decide
theorem txt_ne (n : Nat) : (10 : UInt8) ∉ Cod.txt n ∧ (32 : UInt8) ∉ Cod.txt n := by
  have h : ∀ u ∈ Cod.txt n, u ≠ 10 ∧ u ≠ 32 := by
    intro u hu
    simp only [Cod.txt, List.mem_cons, List.not_mem_nil, or_false] at hu
    have hd := fun i => Cod.dig_lt n i
    have hc : Cod.chk (Cod.dig n) 7 < 32 := Cod.chk_lt (fun i => Cod.dig_lt n i) 7
    rcases hu with rfl | rfl | rfl | rfl | rfl | rfl | rfl | rfl
    · exact ltB_all2 ⟨_, hd 0⟩
    · exact ltB_all2 ⟨_, hd 1⟩
    · exact ltB_all2 ⟨_, hd 2⟩
    · exact ltB_all2 ⟨_, hd 3⟩
    · exact ltB_all2 ⟨_, hd 4⟩
    · exact ltB_all2 ⟨_, hd 5⟩
    · exact ltB_all2 ⟨_, hd 6⟩
    · exact ltB_all2 ⟨_, hc⟩
  exact ⟨fun h1 => (h _ h1).1 rfl, fun h1 => (h _ h1).2 rfl⟩
theorem okB_txt {n : Nat} (h : n < 4294967296) : okB (Cod.txt n) = true := by
  unfold okB
  rw [Cod.answer_txt h]; rfl
theorem okB_yes {b : List UInt8} (h : okB b = true) : ∃ n, n < 4294967296 ∧ b = Cod.txt n := by
  unfold okB at h
  rcases Cod.answer_ways ⟨b.toArray⟩ with ⟨p, h1, _⟩ | ⟨n, h1, h2, h3⟩
  · rw [h1] at h; simp at h
  · refine ⟨n, h2, ?_⟩
    have := congrArg (fun s : ByteArray => s.data.toList) h3
    simpa using this
theorem okB_ne {b : List UInt8} (h : okB b = true) : (10 : UInt8) ∉ b ∧ (32 : UInt8) ∉ b := by
  obtain ⟨n, _, h2⟩ := okB_yes h
  rw [h2]; exact txt_ne n

/-- a line that is told of a book -/
def GoodLn (x : Ln) : Prop := okA x.seat.data.toList = true ∧ okB x.code.data.toList = true
theorem howB_how (h : Bool) : how (howB h).data.toList = true ∧ ((howB h).data.toList == heldW) = h ∧ (10 : UInt8) ∉ (howB h).data.toList ∧ (32 : UInt8) ∉ (howB h).data.toList := by
  cases h <;> decide
def stemT (x : Ln) : List UInt8 := x.seat.data.toList ++ 32 :: (x.code.data.toList ++ 32 :: (howB x.held).data.toList)
theorem lineT_stem (x : Ln) : lineT x = stemT x ++ [10] := by simp [lineT, stemT]
theorem stem_no {x : Ln} (h : GoodLn x) : (10 : UInt8) ∉ stemT x := by
  have h1 := (okA_ne h.1).1
  have h2 := (okB_ne h.2).1
  have h3 := (howB_how x.held).2.2.1
  simp only [stemT, List.mem_append, List.mem_cons, not_or]
  exact ⟨h1, by decide, h2, by decide, h3⟩
theorem readL_line {x : Ln} (h : GoodLn x) : readL (lineT x) = some (trip x) := by
  unfold readL
  rw [lineT_stem, if_pos ((suffix_iff _).2 ⟨_, rfl⟩), trim_snoc]
  have hw : words (stemT x) = [x.seat.data.toList, x.code.data.toList, (howB x.held).data.toList] := words_three.2 ⟨rfl, (okA_ne h.1).2, (okB_ne h.2).2, (howB_how x.held).2.2.2⟩
  rw [hw]
  simp only
  rw [if_pos (by rw [h.1, h.2, (howB_how x.held).1]; rfl), (howB_how x.held).2.1]
  rfl
theorem linesL_txt : ∀ {ls : List Ln}, (∀ x ∈ ls, GoodLn x) → linesL (txtL ls) = ls.map lineT
  | [], _ => rfl
  | x :: ls, h => by
    have hx := h x (by simp)
    have : txtL (x :: ls) = stemT x ++ 10 :: txtL ls := by
      show lineT x ++ txtL ls = _
      rw [lineT_stem]; simp
    rw [this, linesL_some (upto_some.2 ⟨rfl, stem_no hx⟩), linesL_txt (fun y hy => h y (by simp [hy])), List.map_cons, lineT_stem]
theorem good_map {ls : List Ln} (h : ∀ x ∈ ls, GoodLn x) : (ls.map lineT).map readL = (ls.map trip).map some := by
  rw [List.map_map, List.map_map]
  exact List.map_congr_left fun x hx => readL_line (h x hx)
theorem sum_txt {ls : List Ln} (h : ∀ x ∈ ls, GoodLn x) : sumL 0 (linesL (txtL ls)) = (ls.map trip, 0) := by
  rw [linesL_txt h]
  exact sumL_good 0 _ _ (good_map h)
theorem sum_txt_x {ls : List Ln} (h : ∀ x ∈ ls, GoodLn x) (hne : ls ≠ []) : sumL 0 (linesL (txtL ls ++ [120])) = ([], ls.length + 1) := by
  have he : ∃ t, txtL ls = t ++ [10] := by
    obtain ⟨l, x, rfl⟩ : ∃ l x, ls = l ++ [x] := ⟨ls.dropLast, ls.getLast hne, (List.dropLast_concat_getLast hne).symm⟩
    refine ⟨txtL l ++ stemT x, ?_⟩
    rw [txtL_snoc, lineT_stem]; simp
  rw [linesL_app _ _ he, linesL_txt h, linesL_none (l := [120]) (by decide) (by simp), sumL_bad 0 _ _ _ (ls.map trip) (good_map h) (readL_no (by decide))]
  simp
theorem map_trip_inj : ∀ {a b : List Ln}, a.map trip = b.map trip → a = b
  | [], [], _ => rfl
  | [], _ :: _, h => by simp at h
  | _ :: _, [], h => by simp at h
  | x :: a, y :: b, h => by
    simp only [List.map_cons, List.cons.injEq] at h
    rw [trip_inj h.1, map_trip_inj h.2]
theorem ParseOut.good {s : ByteArray} {w w' : World} {e : Ending} (h : ParseOut s w e w') {ls : List Ln} (hs : sumL 0 (linesL s.data.toList) = (ls.map trip, 0)) :
    (∃ v : Value, e = .returned (.tuple #[v, .int .i64 0, .int .i64 0]) ∧ RowIn (fun k => w.heap.size ≤ k) w' 74 3 v ls.length (rowC ls)) ∧ Below w.heap.size w w' := by
  obtain ⟨h, hb⟩ := h
  refine ⟨?_, hb⟩
  rcases h with ⟨ls', v, h1, h2, h3⟩ | ⟨p, x, r, ls', h1, h2, h3, h4⟩
  · have := good_sum h1
    rw [hs] at this
    injection this with this _
    rw [map_trip_inj this]
    exact ⟨v, h2, h3⟩
  · have := bad_sum h1 h2 h3
    rw [hs] at this
    injection this with _ this
    omega
theorem ParseOut.bad {s : ByteArray} {w w' : World} {e : Ending} (h : ParseOut s w e w') {k : Nat} {ys : List (List UInt8 × List UInt8 × Bool)} (hs : sumL 0 (linesL s.data.toList) = (ys, k + 1)) :
    e = .returned (.tuple #[.slice none 0 0, .int .i64 ((k : Int) + 1), .int .i64 150]) ∧ Below w.heap.size w w' := by
  obtain ⟨h, hb⟩ := h
  refine ⟨?_, hb⟩
  rcases h with ⟨ls', v, h1, h2, h3⟩ | ⟨p, x, r, ls', h1, h2, h3, h4⟩
  · have := good_sum h1
    rw [hs] at this
    injection this with _ this
    omega
  · have := bad_sum h1 h2 h3
    rw [hs] at this
    injection this with _ this
    rw [h4]
    have e1 : p.length = k := by omega
    rw [e1]

theorem RowIn.lines {S : Nat → Prop} {w : World} {A : Option Addr} {c : Nat} {l : List Ln} (h : RowIn S w 74 3 (.slice A l.length c) l.length (rowC l)) : Lines w A l := fun hne => by
  have hpos : 0 < l.length := List.length_pos_iff.2 hne
  obtain ⟨g, cap, hv, _, _, _, hg⟩ := RowIn.form h hpos
  injection hv with h1 _ h2
  subst h1 h2
  exact ⟨g, 0, rfl, hg, fun k hk => by rw [Nat.zero_add]; exact RowIn.range h (rowC_len l) hk⟩

set_option maxRecDepth 100000 in
set_option maxHeartbeats 1000000 in
theorem Sound_shape (a b c clock : Int) (A : Option Addr) (len cap : Nat) (w : World) (h : Geo.okS a b c = false) : Calls Tryz.prog 26 #[.agg #[.int .i64 a, .int .i64 b, .int .i64 c], .slice A len cap, .int .i64 clock] w fun e w' => e = .returned (.bool false) ∧ Below w.heap.size w w' := by
  have HC := Lib.hid (fun W => Bk.Of_shape a b c 4294967295 clock A len cap W h)
  clear h
  go_enter Tryz.func26, Tryz.ntmps26
  go_wp2_with fail
  refine (HC.out _).mono ?_
  rintro e w1 ⟨rfl, hb⟩
  have HB := Lib.hid (ext_trans (ext_alloc (Below.refl w.heap.size w) (.cells #[.int .i64 a, .int .i64 b, .int .i64 c] 26)) hb)
  clear hb
  go_wp2_with fail
  go_ret
  exact ⟨rfl, HB.out⟩
set_option maxRecDepth 100000 in
set_option maxHeartbeats 1000000 in
theorem Sound_in (n codes : Nat) (group clock : Int) (l : List Raw) (A : Option Addr) (cap : Nat) (w : World) (h : Geo.okS n codes group = true) (hr : Raws w A l) (hl : l.length ≤ 17592186043904) (hids : ∀ x ∈ l, 0 ≤ x.id ∧ x.id < 4294967296) :
    Calls Tryz.prog 26 #[.agg #[.int .i64 n, .int .i64 codes, .int .i64 group], .slice A l.length cap, .int .i64 clock] w fun e w' => e = .returned (.bool (bookOf n codes 4294967295 clock l).isSome) ∧ Below w.heap.size w w' := by
  have HC := Lib.hid (fun W (hb : Below w.heap.size w W) => Bk.Of_in n codes group 4294967295 clock l A cap W h (hr.keep hb) hl (by omega) hids)
  clear h hr hids
  go_enter Tryz.func26, Tryz.ntmps26
  go_wp2_with fail
  refine (HC.out _ (ext_alloc (Below.refl _ _) _)).mono ?_
  rintro e w1 ⟨hb, hm⟩
  have HB := Lib.hid (ext_trans (ext_alloc (Below.refl w.heap.size w) (.cells #[.int .i64 n, .int .i64 codes, .int .i64 group] 26)) hb)
  clear hb
  cases hbo : bookOf n codes 4294967295 clock l with
  | none =>
    rw [hbo] at hm
    simp only at hm
    subst hm
    go_wp2_with fail
    go_ret
    exact ⟨by rw [hbo]; rfl, HB.out⟩
  | some L =>
    rw [hbo] at hm
    simp only at hm
    obtain ⟨b, S, q, rfl, _, _⟩ := hm
    go_wp2_with fail
    go_ret
    exact ⟨by rw [hbo]; rfl, HB.out⟩

set_option maxRecDepth 100000 in
set_option maxHeartbeats 1000000 in
theorem six_in (w : World) : Calls Tryz.prog 29 #[] w fun e w' => (∃ b S q, e = .returned (.tuple #[.pointer (some ⟨b, 0, none⟩), .bool true]) ∧ BookAt S w' b 6 6 1 3 0 [⟨1, 4, 0⟩, ⟨2, 0, 9⟩] q ∧ (∀ k, S k → w.heap.size ≤ k)) ∧ Below w.heap.size w w' := by
  go_enter Tryz.func29, Tryz.ntmps29
  go_wp2_with fail
  have hR : Raws (w.alloc (.cells #[.int .u32 1, .int .i64 4, .int .i64 0, .int .u32 2, .int .i64 0, .int .i64 9] 78)) (some ⟨w.heap.size, 0, none⟩) [⟨1, 4, 0⟩, ⟨2, 0, 9⟩] := fun _ => ⟨w.heap.size, 0, rfl, by simp, fun k hk j v hj => by
    have hc := (Arr.fresh w 78 #[.int .u32 1, .int .i64 4, .int .i64 0, .int .u32 2, .int .i64 0, .int .i64 9]).cell (0 + k * 3 + j)
    refine hc.trans ?_
    rcases (show k = 0 ∨ k = 1 by simp at hk; omega) with rfl | rfl
    · rcases (show j = 0 ∨ j = 1 ∨ j = 2 ∨ 3 ≤ j by omega) with rfl | rfl | rfl | h3
      · exact hj
      · exact hj
      · exact hj
      · rw [List.getElem?_eq_none (by simpa [Bk.rawL] using h3)] at hj; cases hj
    · rcases (show j = 0 ∨ j = 1 ∨ j = 2 ∨ 3 ≤ j by omega) with rfl | rfl | rfl | h3
      · exact hj
      · exact hj
      · exact hj
      · rw [List.getElem?_eq_none (by simpa [Bk.rawL] using h3)] at hj; cases hj⟩
  refine (Bk.Of_in 6 6 1 3 0 [⟨1, 4, 0⟩, ⟨2, 0, 9⟩] (some ⟨w.heap.size, 0, none⟩) 2 _ (by decide) hR (by decide) (by decide) (by decide)).mono ?_
  rintro e w1 ⟨hb, hm⟩
  obtain ⟨b, S, q, rfl, hB, hS⟩ : ∃ b S q, e = .returned (.tuple #[.pointer (some ⟨b, 0, none⟩), .int .i64 0]) ∧ BookAt S w1 b 6 6 1 3 0 [⟨1, 4, 0⟩, ⟨2, 0, 9⟩] q ∧ (∀ k, S k → (w.alloc (.cells #[.int .u32 1, .int .i64 4, .int .i64 0, .int .u32 2, .int .i64 0, .int .i64 9] 78)).heap.size ≤ k) := hm
  have HB := Lib.hid (ext_trans (ext_alloc (Below.refl w.heap.size w) _) hb)
  have HBK := Lib.hid hB
  clear hb hR hB
  go_wp2_with fail
  go_ret2
  exact ⟨⟨b, S, q, rfl, HBK.out, fun k hk => by have := hS k hk; simp at this; omega⟩, HB.out⟩

end Go.Proofs.YtpoijhjjbmaedaaGreatDoor.Man
end

/- Man10: The manifest's rows: the program is awake. -/
section
namespace Go.Proofs.YtpoijhjjbmaedaaGreatDoor.Man
open Go.RowKit
open Go.Proofs.YtpoijhjjbmaedaaGreatDoor.Bit (hasB)
open Go.Proofs.YtpoijhjjbmaedaaGreatDoor.Bk (BookAt Parts Bkg Raw Raws bookOf)

/-- what the walks want of the world: an error's value, the codes' table, a bound of the search -/
structure Wd (w : World) : Prop where
  ev : Cab.EV w
  tab : Cod.Tab w
  max : ∃ m, w.cell? ⟨1, 0, none⟩ = some (.int .i64 m)
theorem Wd.keep {w w' : World} (h : Wd w) (hb : Below w.heap.size w w') : Wd w' :=
  ⟨h.ev.keep hb, h.tab.keep hb, by obtain ⟨m, hm⟩ := h.max; exact ⟨m, (hb.cell (p := ⟨1, 0, none⟩) (block_lt_of_cell hm)).trans hm⟩⟩
theorem Parse_far (s : ByteArray) (w : World) (h : Wd w) (hs : s.size ≤ 25000) : Calls Tryz.prog 23 #[.string s] w (ParseOut s w) := by
  obtain ⟨m, hm⟩ := h.max
  exact Parse_in s m w hs h.ev h.tab hm

theorem Parse_at (s : ByteArray) (w : World) (h : Wd w) (hs : s.size ≤ 20000) : Calls Tryz.prog 23 #[.string s] w (ParseOut s w) := Parse_far s w h (by omega)
def sixL : List Ln := [⟨⟨#[49, 65]⟩, ⟨(Cod.txt 2).toArray⟩, true⟩, ⟨⟨#[50, 66]⟩, ⟨(Cod.txt 1).toArray⟩, false⟩]
theorem seat00 : Cab.seatT 0 0 = [49, 65] := by decide +kernel
theorem seat11 : Cab.seatT 1 1 = [50, 66] := by decide +kernel
theorem sixL_good : ∀ x ∈ sixL, GoodLn x := by
  intro x hx
  simp only [sixL, List.mem_cons, List.not_mem_nil, or_false] at hx
  rcases hx with rfl | rfl
  · exact ⟨seat00 ▸ okA_seat (r := 0) (c := 0) (by decide) (by decide), okB_txt (n := 2) (by decide)⟩
  · exact ⟨seat11 ▸ okA_seat (r := 1) (c := 1) (by decide) (by decide), okB_txt (n := 1) (by decide)⟩
theorem six_lines {S : Nat → Prop} {w : World} {b : Nat} {q : Parts} (h : BookAt S w b 6 6 1 3 0 [⟨1, 4, 0⟩, ⟨2, 0, 9⟩] q) : linesTo 3 q.ws q.sb 6 = sixL := by
  have y0 : hasB q.ws 0 = true := (h.bits 0 (by omega)).2 ⟨⟨2, 0, 9⟩, by simp, rfl⟩
  have y4 : hasB q.ws 4 = true := (h.bits 4 (by omega)).2 ⟨⟨1, 4, 0⟩, by simp, rfl⟩
  have no : ∀ i, i < 6 → i ≠ 0 → i ≠ 4 → hasB q.ws i = false := fun i hi h0 h4 => by
    rw [← Bool.not_eq_true]
    intro e
    obtain ⟨x, hx, e⟩ := (h.bits i hi).1 e
    simp only [List.mem_cons, List.not_mem_nil, or_false] at hx
    rcases hx with rfl | rfl
    · exact h4 e.symm
    · exact h0 e.symm
  have s0 : q.sb 0 = ⟨2, 0, 9⟩ := (h.lies ⟨2, 0, 9⟩ (by simp)).2
  have s4 : q.sb 4 = ⟨1, 4, 0⟩ := (h.lies ⟨1, 4, 0⟩ (by simp)).2
  simp only [linesTo, y0, y4, no 1 (by omega) (by omega) (by omega), no 2 (by omega) (by omega) (by omega), no 3 (by omega) (by omega) (by omega), no 5 (by omega) (by omega) (by omega), if_true, s0, s4, List.nil_append, List.cons_append, Bool.false_eq_true, if_false]
  have l0 : lineAt 3 0 ⟨2, 0, 9⟩ = ⟨⟨(Cab.seatT 0 0).toArray⟩, ⟨(Cod.txt 2).toArray⟩, true⟩ := rfl
  have l4 : lineAt 3 4 ⟨1, 4, 0⟩ = ⟨⟨(Cab.seatT 1 1).toArray⟩, ⟨(Cod.txt 1).toArray⟩, false⟩ := rfl
  rw [l0, l4, seat00, seat11]; rfl
theorem six_of {S : Nat → Prop} {w : World} {b : Nat} {q : Parts} (h : BookAt S w b 6 6 1 3 0 [⟨1, 4, 0⟩, ⟨2, 0, 9⟩] q) (ht : Cod.Tab w) :
    Calls Tryz.prog 15 #[.agg #[.int .i64 2, .int .i64 3, .slice none 0 0], .pointer (some ⟨b, 0, none⟩)] w (OfOut sixL w) := by
  have := Of_in S b 6 6 1 3 0 [⟨1, 4, 0⟩, ⟨2, 0, 9⟩] q 2 3 [] none 0 w h (fun h => absurd rfl h) (by decide) (by decide) (by decide) ht (by decide)
  rw [six_lines h] at this
  exact this
theorem sixT_len : (txtL sixL).length = 39 := by decide +kernel

set_option maxRecDepth 100000 in
set_option maxHeartbeats 2000000 in
theorem awake_in (w : World) (hw : Wd w) : Calls Tryz.prog 10 #[] w fun e w' => e = .returned (.bool true) ∧ Below w.heap.size w w' := by
  obtain ⟨TS, hTS⟩ : ∃ TS : ByteArray, (⟨(txtL sixL).toArray⟩ : ByteArray) = TS := ⟨_, rfl⟩
  have HT := Lib.hid hTS
  have hTsz : TS.size = 39 := by rw [← hTS]; show (txtL sixL).toArray.size = 39; rw [List.size_toArray, sixT_len]
  have HW := Lib.hid hw
  clear hTS hw
  go_enter Tryz.func10, Tryz.ntmps10
  go_wp2_with fail
  refine (six_in w).mono ?_
  rintro e w1 ⟨⟨b, S, q, rfl, hB, _⟩, hb1⟩
  have HB1 := Lib.hid hb1
  have HBK := Lib.hid hB
  clear hb1 hB
  go_wp2_with fail
  refine (six_of HBK.out (HW.out.keep HB1.out).tab).mono ?_
  rintro e w2 ⟨v, rfl, hR2, hb2⟩
  have HB2 := Lib.hid (ext_trans HB1.out hb2)
  obtain ⟨g, c, rfl, _, _, _, hgl⟩ := RowIn.form hR2 (by decide)
  have hL2 : Lines w2 (some ⟨g, 0, none⟩) sixL := RowIn.lines hR2
  have x0 : w2.cell? ⟨g, 0, none⟩ = some (.string ⟨#[49, 65]⟩) := RowIn.range hR2 (rowC_len _) (i := 0) (by decide) 0 _ rfl
  have x2 : w2.cell? ⟨g, 2, none⟩ = some (.bool true) := RowIn.range hR2 (rowC_len _) (i := 0) (by decide) 2 _ rfl
  have x3 : w2.cell? ⟨g, 3, none⟩ = some (.string ⟨#[50, 66]⟩) := RowIn.range hR2 (rowC_len _) (i := 1) (by decide) 0 _ rfl
  have x5 : w2.cell? ⟨g, 5, none⟩ = some (.bool false) := RowIn.range hR2 (rowC_len _) (i := 1) (by decide) 2 _ rfl
  have HL2 := Lib.hid hL2
  clear hb2 hR2 hL2
  go_wp2_with fail
  refine (Text_in sixL (some ⟨g, 0, none⟩) c w2 HL2.out (by decide) (by decide +kernel)).mono ?_
  rintro e w3 ⟨rfl, hb3⟩
  rw [HT.out]
  have HB3 := Lib.hid (ext_trans HB2.out hb3)
  have HL3 := Lib.hid (HL2.out.keep hb3)
  clear hb3 x0 x2 x3 x5
  go_wp2_with fail
  refine (Parse_at TS w3 (HW.out.keep HB3.out) (by omega)).mono ?_
  rintro e w4 hp
  obtain ⟨⟨v4, rfl, hR4⟩, hb4⟩ := ParseOut.good hp (ls := sixL) (by rw [← HT.out]; exact sum_txt sixL_good)
  obtain ⟨g4, c4, rfl, _, _, _, _⟩ := RowIn.form hR4 (by decide)
  have HL4 := Lib.hid (RowIn.lines hR4)
  have HL3' := Lib.hid (HL3.out.keep hb4)
  have HB4 := Lib.hid (ext_trans HB3.out hb4)
  clear hp hR4 hb4
  go_wp2_with fail
  refine (Text_in sixL (some ⟨g, 0, none⟩) c w4 HL3'.out (by decide) (by decide +kernel)).mono ?_
  rintro e w5 ⟨rfl, hb5⟩
  rw [HT.out]
  have HB5 := Lib.hid (ext_trans HB4.out hb5)
  have HL5 := Lib.hid (HL3'.out.keep hb5)
  have HM5 := Lib.hid (HL4.out.keep hb5)
  have hsum : ¬ 9223372036854775807 < TS.size + (⟨#[120]⟩ : ByteArray).size := by rw [hTsz]; decide
  clear hb5
  go_wp2_with fail
  obtain ⟨TX, hTX⟩ : ∃ TX : ByteArray, TS ++ (⟨#[120]⟩ : ByteArray) = TX := ⟨_, rfl⟩
  have hTXL : TX.data.toList = txtL sixL ++ [120] := by rw [← hTX, ← HT.out, ByteArray.data_append]; simp
  have hTXs : TX.size ≤ 20000 := by rw [Lib.size_eq, hTXL, List.length_append, sixT_len]; decide
  rw [hTX]
  refine (Parse_at TX w5 (HW.out.keep HB5.out) hTXs).mono ?_
  rintro e w6 hp
  have hp' := ParseOut.bad hp (k := 2) (ys := []) (by rw [hTXL]; exact sum_txt_x sixL_good (by simp [sixL]))
  rw [show (((2 : Nat) : Int) + 1) = 3 from rfl] at hp'
  obtain ⟨rfl, hb6⟩ := hp'
  have HL6 := Lib.hid (HL5.out.keep hb6)
  have HM6 := Lib.hid (HM5.out.keep hb6)
  have HB6 := Lib.hid (ext_trans HB5.out hb6)
  clear hp hb6 hsum hTX hTXL hTXs
  go_wp2_with fail
  refine (SameLines_in sixL _ _ _ _ w6 HL6.out HM6.out (by decide)).mono ?_
  rintro e w7 ⟨rfl, hb7⟩
  have HB7 := Lib.hid (ext_trans HB6.out hb7)
  clear hb7
  go_wp2_with fail
  refine (Sound_in 1 1 1 0 [] none 0 w7 (by decide) (fun h => absurd rfl h) (by decide) (by simp)).mono ?_
  rintro e w8 ⟨rfl, hb8⟩
  have HB8 := Lib.hid (ext_trans HB7.out hb8)
  rw [show (bookOf 1 1 4294967295 0 []).isSome = true from rfl]
  clear hb8
  go_wp2_with fail
  go_ret
  exact ⟨rfl, HB8.out⟩

end Go.Proofs.YtpoijhjjbmaedaaGreatDoor.Man
end
