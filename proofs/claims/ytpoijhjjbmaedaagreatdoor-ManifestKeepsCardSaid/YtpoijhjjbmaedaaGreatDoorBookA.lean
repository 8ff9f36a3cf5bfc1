/- Packed: Book2 Book3 -/
import Derived.Test.YtpoijhjjbmaedaaGreatDoorHeapC
import Derived.Test.YtpoijhjjbmaedaaGreatDoorCabA
set_option linter.unusedVariables false
set_option linter.unusedSimpArgs false
/- Book2: The book: what it holds; put. -/
section
namespace Go.Proofs.YtpoijhjjbmaedaaGreatDoor.Bk
open Go.RowKit
open Go.Proofs.YtpoijhjjbmaedaaGreatDoor.Bit (SetAt hasB)
open Go.Proofs.YtpoijhjjbmaedaaGreatDoor.Idx (IdxOk Slot)
open Go.Proofs.YtpoijhjjbmaedaaGreatDoor.Hp (HeapIn Due)

/-- the book at b holds the bookings L -/
structure BookAt (S : Nat → Prop) (w : World) (b n codes : Nat) (group next clock : Int) (L : List Bkg) (q : Parts) : Prop where
  comp : Comp S w b n codes group next clock L.length q
  bits : ∀ i, i < n → (hasB q.ws i = true ↔ ∃ x ∈ L, x.seat = i)
  lies : ∀ x ∈ L, x.seat < n ∧ q.sb x.seat = x
  under : ∀ j, j < q.m → (q.f j).state = 1 → ∃ x ∈ L, (q.f j).id = x.id
  listed : ∀ x ∈ L, ∃ j, j < q.m ∧ (q.f j).state = 1 ∧ (q.f j).id = x.id ∧ (q.f j).v = x.seat
  small : q.hl ≤ L.length ∧ q.hn ≤ L.length ∧ q.hm ≤ L.length ∧ 1 ≤ n ∧ n ≤ 1024
theorem hasB_put (ws : Nat → Nat) (i j : Nat) : hasB (fun k => if k = i / 64 then ws k ||| 2 ^ (i % 64) else ws k) j = (hasB ws j || decide (j = i)) := by
  unfold hasB
  show (if j / 64 = i / 64 then ws (j / 64) ||| 2 ^ (i % 64) else ws (j / 64)).testBit (j % 64) = _
  by_cases h : j / 64 = i / 64
  · rw [if_pos h, Nat.testBit_or, Nat.testBit_two_pow]
    congr 1
    rw [Bool.eq_iff_iff, decide_eq_true_eq, decide_eq_true_eq]
    omega
  · rw [if_neg h]
    have : decide (j = i) = false := decide_eq_false (fun e => h (by rw [e]))
    rw [this, Bool.or_false]

set_option maxRecDepth 100000 in
set_option maxHeartbeats 1000000 in
theorem SetPut_in (p g c n i : Nat) (ws : Nat → Nat) (w : World) (h : SetAt w p g c n ws) (hi : i < n) (hn : n ≤ 1000000) : Calls Tryz.prog 82 #[.pointer (some ⟨p, 0, none⟩), .int .i64 i] w fun e w' => e = .returned (.int .i64 0) ∧ SetAt w' p g c n (fun j => if j = i / 64 then ws j ||| 2 ^ (i % 64) else ws j) ∧ w.grownBy w' (some g) := by
  have HC := Lib.hid (Bit.Change_in p g c n i ws w h hi hn)
  clear h
  go_enter Tryz.func82, Tryz.ntmps82
  go_wp2_with fail
  refine HC.out.mono ?_
  rintro e w1 ⟨rfl, h1, h2⟩
  have H1 := Lib.hid h1
  have H2 := Lib.hid h2
  clear h1 h2
  go_wp2_with fail
  go_ret
  exact ⟨rfl, H1.out, H2.out⟩

theorem setL_bkg (sb : Nat → Bkg) (i : Nat) (x : Bkg) : setL (fun i => bkgL (sb i)) i (bkgL x) = fun j => bkgL (setL sb i x j) := by
  funext j
  unfold setL
  by_cases h : j = i
  · simp [h]
  · simp [h]
theorem BookAt.more {S T : Nat → Prop} {w w' : World} {b n codes : Nat} {group next clock : Int} {L : List Bkg} {x : Bkg} {q : Parts} (h : BookAt S w b n codes group next clock L q) (hfresh : ∀ y ∈ L, y.id ≠ x.id) (hfree : ∀ y ∈ L, y.seat ≠ x.seat) (hx : x.seat < n) {i : Nat} (him : i < q.m) (his : (q.f i).state ≠ 1)
    {q' : Parts} (hc : Comp T w' b n codes group next clock (L.length + 1) q') (h1 : q'.ws = fun j => if j = x.seat / 64 then q.ws j ||| 2 ^ (x.seat % 64) else q.ws j) (h2 : q'.f = Idx.upd q.f i ⟨1, x.id, x.seat⟩) (h3 : q'.sb = setL q.sb x.seat x) (h4 : q'.m = q.m) (h5 : q'.hl ≤ L.length + 1 ∧ q'.hn ≤ ((L.length + 1 : Nat) : Int) ∧ q'.hm ≤ L.length + 1) :
    BookAt T w' b n codes group next clock (L ++ [x]) q' := by
  have hl : (L ++ [x]).length = L.length + 1 := by simp
  refine ⟨by rw [hl]; exact hc, fun j hj => ?_, fun y hy => ?_, fun j hj hs => ?_, fun y hy => ?_, by rw [hl]; exact ⟨h5.1, h5.2.1, h5.2.2, h.small.2.2.2⟩⟩
  · rw [h1, hasB_put, Bool.or_eq_true, h.bits j hj, decide_eq_true_eq]
    constructor
    · rintro (⟨y, hy, e⟩ | e)
      · exact ⟨y, by simp [hy], e⟩
      · exact ⟨x, by simp, e.symm⟩
    · rintro ⟨y, hy, e⟩
      rcases List.mem_append.1 hy with hy | hy
      · exact .inl ⟨y, hy, e⟩
      · obtain rfl : y = x := by simpa using hy
        exact .inr e.symm
  · rw [h3]
    rcases List.mem_append.1 hy with hy | hy
    · refine ⟨(h.lies y hy).1, ?_⟩
      rw [setL_other _ _ (hfree y hy)]
      exact (h.lies y hy).2
    · obtain rfl : y = x := by simpa using hy
      exact ⟨hx, setL_same _ _ _⟩
  · rw [h2] at hs ⊢
    by_cases e : j = i
    · subst e
      rw [Idx.upd_same]
      exact ⟨x, by simp, rfl⟩
    · rw [Idx.upd_other _ _ e] at hs ⊢
      obtain ⟨y, hy, hy2⟩ := h.under j (h4 ▸ hj) hs
      exact ⟨y, by simp [hy], hy2⟩
  · rw [h2, h4]
    rcases List.mem_append.1 hy with hy | hy
    · obtain ⟨j, hj, hs, r⟩ := h.listed y hy
      have e : j ≠ i := fun e => his (e ▸ hs)
      exact ⟨j, hj, by rw [Idx.upd_other _ _ e]; exact ⟨hs, r⟩⟩
    · obtain rfl : y = x := by simpa using hy
      exact ⟨i, him, by rw [Idx.upd_same]; exact ⟨rfl, rfl, rfl⟩⟩
theorem vb_keep {S : Nat → Prop} {w w3 w4 : World} {b n codes : Nat} {group next clock : Int} {len vb : Nat} {q : Parts} {cs : Array Value} (h : Comp S w b n codes group next clock len q) (hv : w.heap.size = vb) (ha : Arr w3 vb 78 cs) (hg : w3.drew.grownBy w4 (some q.sg)) : Arr w4 vb 78 cs := by
  obtain ⟨_, _, _, _, _, ⟨_, a⟩⟩ := h.arrs
  have h1 := a.lt
  exact (hg.block vb ha.lt (fun e => by injection e with e; omega)).trans ha
def PutOut (S : Nat → Prop) (w : World) (b n codes : Nat) (group next clock : Int) (L : List Bkg) (x : Bkg) (e : Ending) (w' : World) : Prop :=
  (∃ v, e = .returned v) ∧ (∃ q', BookAt (fun k => (S k ∨ w.heap.size ≤ k) ∧ k < w'.heap.size) w' b n codes group next clock (L ++ [x]) q') ∧ Tch S w w'
set_option maxRecDepth 100000 in
set_option maxHeartbeats 2000000 in
theorem put_in (S : Nat → Prop) (b n codes : Nat) (group next clock : Int) (L : List Bkg) (x : Bkg) (q : Parts) (w : World) (h : BookAt S w b n codes group next clock L q) (hid : 0 ≤ x.id ∧ x.id < 4294967296) (hfresh : ∀ y ∈ L, y.id ≠ x.id) (hfree : ∀ y ∈ L, y.seat ≠ x.seat) (hx : x.seat < n) (hl : L.length < codes) (htil : 0 ≤ x.til ∧ x.til ≤ 1099511627776) :
    Calls Tryz.prog 40 #[.pointer (some ⟨b, 0, none⟩), .agg #[.int .u32 x.id, .int .i64 x.seat, .int .i64 x.til]] w (PutOut S w b n codes group next clock L x) := by
  have hq := h.small
  have hnoid : ∀ j, j < q.m → (q.f j).state = 1 → (q.f j).id ≠ x.id := fun j hj hs e => by
    obtain ⟨y, hy, hy2⟩ := h.under j hj hs
    exact hfresh y hy (by rw [← hy2, e])
  have hl4 : L.length < 4096 := by have := h.comp.ids.room; omega
  have HH := Lib.hid h
  have HNO := Lib.hid hnoid
  clear h hnoid
  go_enter Tryz.func40, Tryz.ntmps40
  go_wp2_with fail
  have hb1 : Below w.heap.size w (w.alloc (.cells #[.int .u32 x.id, .int .i64 x.seat, .int .i64 x.til] 78)) := ext_alloc (Below.refl _ _) _
  have hA1 : Arr (w.alloc (.cells #[.int .u32 x.id, .int .i64 x.seat, .int .i64 x.til] 78)) w.heap.size 78 #[.int .u32 x.id, .int .i64 x.seat, .int .i64 x.til] := Arr.fresh w _ _
  obtain ⟨w1, hw1⟩ : ∃ w1, w.alloc (.cells #[.int .u32 x.id, .int .i64 x.seat, .int .i64 x.til] 78) = w1 := ⟨_, rfl⟩
  obtain ⟨vb, hvb⟩ : ∃ vb, w.heap.size = vb := ⟨_, rfl⟩
  rw [hw1] at hb1 hA1 ⊢
  rw [hvb] at hA1 ⊢
  clear hw1
  have hc1 := HH.out.comp.below hb1
  have hT1 : Tch S w w1 := (Tch.refl S w).below hb1
  have x7 : w1.cell? ⟨b, 7, none⟩ = some (.pointer (some ⟨q.ip, 0, none⟩)) := hc1.own.cell 7
  have y0 : w1.cell? ⟨vb, 0, none⟩ = some (.int .u32 x.id) := hA1.cell 0
  have y1 : w1.cell? ⟨vb, 1, none⟩ = some (.int .i64 x.seat) := hA1.cell 1
  have HC1 := Lib.hid hc1; have HA1 := Lib.hid hA1; have HT1 := Lib.hid hT1; have HVB := Lib.hid hvb
  clear hc1 hA1 hT1 hvb hb1
  go_still_tail 8, (by kernel_rfl)
  change wpList _ _ _ _ _ w1.drew
  go_wp2_with fail
  have hcd := HC1.out.below (ext_drew (Below.refl _ _))
  refine (Idx.Put_ok q.ip q.ig q.m codes L.length 0 x.id x.seat q.f w1.drew hcd.ids hid HNO.out hl rfl).mono ?_
  rintro e w2 ⟨rfl, ⟨i, him, his, hix⟩, hTi⟩
  have hc2 := hcd.ids_step hTi hix
  have hlt := HH.out.comp.ids.lt
  have hA2 : Arr w2 vb 78 #[.int .u32 x.id, .int .i64 x.seat, .int .i64 x.til] := hTi.arr (show Arr w1.drew vb _ _ from HA1.out) (by have := HVB.out; omega)
  have hf := HH.out.comp.foot
  have hT2 : Tch S w w2 := (HT1.out.below (ext_drew (Below.refl _ _))).trans (hTi.mono fun k _ hk => by rcases hk with rfl | rfl; exact hf.2.2.2.1; exact hf.2.2.2.2.1)
  have x6 : w2.cell? ⟨b, 6, none⟩ = some (.pointer (some ⟨q.tp, 0, none⟩)) := hc2.own.cell 6
  clear x7 y0 y1 hcd
  have y1 : w2.cell? ⟨vb, 1, none⟩ = some (.int .i64 x.seat) := hA2.cell 1
  have HC2 := Lib.hid hc2; have HA2 := Lib.hid hA2; have HT2 := Lib.hid hT2; have HIM := Lib.hid him; have HIS := Lib.hid his
  clear hc2 hA2 hT2 him his hix hTi HC1 HA1 HT1 hlt
  go_wp2_with fail
  go_still_tail 6, (by kernel_rfl)
  change wpList _ _ _ _ _ w2.drew
  go_wp2_with fail
  have hcd := HC2.out.below (ext_drew (Below.refl _ _))
  refine (SetPut_in q.tp q.tg q.tc n x.seat q.ws w2.drew hcd.taken hx (by omega)).mono ?_
  rintro e w3 ⟨rfl, hS3, hg3⟩
  have hTg : Tch (· = q.tg) w2.drew w3 := (Tch.refl _ _).grown hg3 (fun k e => .inl (by injection e with e; exact e.symm))
  have hc3 := hcd.taken_step hTg hS3
  obtain ⟨_, _, ⟨_, atg⟩, _⟩ := HH.out.comp.arrs
  have hA3 : Arr w3 vb 78 #[.int .u32 x.id, .int .i64 x.seat, .int .i64 x.til] := hTg.arr (show Arr w2.drew vb _ _ from HA2.out) (by have := HVB.out; have := atg.lt; omega)
  have hT3 : Tch S w w3 := (HT2.out.below (ext_drew (Below.refl _ _))).trans (hTg.mono fun k _ hk => by subst hk; exact hf.2.2.1)
  clear x6 y1 hcd HC2 HA2 HT2 hTg hS3 hg3 atg
  have x8 : w3.cell? ⟨b, 8, none⟩ = some (.slice (some ⟨q.sg, 0, none⟩) n q.sc) := hc3.own.cell 8
  have y0 : w3.cell? ⟨vb, 0, none⟩ = some (.int .u32 x.id) := hA3.cell 0
  have y1 : w3.cell? ⟨vb, 1, none⟩ = some (.int .i64 x.seat) := hA3.cell 1
  have y2 : w3.cell? ⟨vb, 2, none⟩ = some (.int .i64 x.til) := hA3.cell 2
  have hxi : (x.seat : Int) < (n : Int) := by omega
  have hx0 : (0 : Int) ≤ (x.seat : Int) := by omega
  have hn1 : (n : Int) ≤ 1024 := by omega
  have HC3 := Lib.hid hc3; have HA3 := Lib.hid hA3; have HT3 := Lib.hid hT3
  have HR3 := Lib.hid (hc3.below (ext_drew (Below.refl _ _))).seats
  clear hc3 hA3 hT3
  go_wp2_with fail
  go_still_tail 8, (by kernel_rfl)
  change wpList _ _ _ _ _ w3.drew
  refine wpList_store_elem rfl 78 _ _ rfl HR3.out (fun _ => rfl) x.seat hx rfl (bkgL x) rfl rfl (bkgL_one x) bkg_size ?_
  intro w4 hr4 hg4 hs4
  have y2' : w4.cell? ⟨vb, 2, none⟩ = some (.int .i64 x.til) := by exact (vb_keep HH.out.comp HVB.out HA3.out hg4).cell 2
  have HR4 := Lib.hid hr4
  have HG4 := Lib.hid hg4
  clear hr4 hg4 hs4 x8 y0 y1 y2
  have hTs : Tch (· = q.sg) w3.drew w4 := (Tch.refl _ _).grown HG4.out (fun k e => .inl (by injection e with e; exact e.symm))
  have hr4 := HR4.out
  rw [setL_bkg] at hr4
  have hc4 := (HC3.out.below (ext_drew (Below.refl _ _))).seats_step hTs hr4
  have hA4 := vb_keep HH.out.comp HVB.out HA3.out HG4.out
  have hT4 : Tch S w w4 := (HT3.out.below (ext_drew (Below.refl _ _))).trans (hTs.mono fun k _ hk => by subst hk; exact HH.out.comp.seats.block _ rfl)
  have HC4 := Lib.hid hc4; have HA4 := Lib.hid hA4; have HT4 := Lib.hid hT4
  clear HC3 HA3 HT3 HR3 HR4 HG4 hTs hr4 hc4 hA4 hT4
  by_cases h0 : x.til = 0
  · have h0' : ¬ (0 : Int) < x.til := by omega
    go_wp2_with fail
    refine bodyPost_end (results_none Tryz.results40 _ _ _) rfl ⟨⟨_, rfl⟩, ⟨_, HH.out.more hfresh hfree hx HIM.out HIS.out (HC4.out.mono (T := fun k => (S k ∨ w.heap.size ≤ k) ∧ k < w4.heap.size) (fun k hk => ⟨.inl hk, HC4.out.lt k hk⟩) (fun k hk => hk.2)) rfl rfl rfl rfl ⟨Nat.le_succ_of_le hq.1, by show q.hn ≤ _; omega, Nat.le_succ_of_le hq.2.2.1⟩⟩, HT4.out⟩
  · have h0' : (0 : Int) < x.til := by omega
    have H0 := Lib.hid h0
    clear h0
    have x9 : w4.cell? ⟨b, 9, none⟩ = some (.pointer (some ⟨q.hp, 0, none⟩)) := HC4.out.own.cell 9
    have x10 : w4.cell? ⟨b, 10, none⟩ = some (.map (some q.mb)) := HC4.out.own.cell 10
    have y0 : w4.cell? ⟨vb, 0, none⟩ = some (.int .u32 x.id) := HA4.out.cell 0
    have y1 : w4.cell? ⟨vb, 1, none⟩ = some (.int .i64 x.seat) := HA4.out.cell 1
    go_wp2_with fail
    refine region_any_drew (by kernel_rfl) ?_
    refine AnyTill.any (S := (fun w' => w'.cell? ⟨b, 9, none⟩ = some (.pointer (some ⟨q.hp, 0, none⟩)) ∧ w'.cell? ⟨b, 10, none⟩ = some (.map (some q.mb)) ∧ w'.cell? ⟨vb, 0, none⟩ = some (.int .u32 x.id) ∧ w'.cell? ⟨vb, 2, none⟩ = some (.int .i64 x.til))) (t := 19) _ _ _ _ ?_
    have hHeld := (show (fun w' => w'.cell? ⟨b, 9, none⟩ = some (.pointer (some ⟨q.hp, 0, none⟩)) ∧ w'.cell? ⟨b, 10, none⟩ = some (.map (some q.mb)) ∧ w'.cell? ⟨vb, 0, none⟩ = some (.int .u32 x.id) ∧ w'.cell? ⟨vb, 2, none⟩ = some (.int .i64 x.til)) w4.drew from ⟨x9, x10, y0, y2'⟩)
    refine till_take (i := 0) (oi := ?o1) (d := (some 32)) (v := ?v1) ?hi1 (by kernel_rfl) (by kernel_rfl) (by kernel_rfl) (by kernel_rfl) (by kernel_rfl) (fun _ _ _ h => h) ?hd1 ?hw1 ?hy1 hHeld ?_
    case hi1 => (simp only [List.getElem?_toArray, List.getElem?_cons_zero]; exact rfl)
    case hd1 => rfl
    case hw1 => rfl
    case hy1 => (intro w hSw; (try dsimp only at hSw); go_simp; try with_reducible rfl)
    try simp only [Act.put, List.setIfInBounds_toArray, List.set_cons_zero, List.set_cons_succ]
    refine till_take (i := 1) (oi := ?o2) (d := (some 33)) (v := ?v2) ?hi2 (by kernel_rfl) (by kernel_rfl) (by kernel_rfl) (by kernel_rfl) (by kernel_rfl) (fun _ _ _ h => h) ?hd2 ?hw2 ?hy2 hHeld ?_
    case hi2 => (simp only [List.getElem?_toArray, List.getElem?_cons_zero, List.getElem?_cons_succ]; exact rfl)
    case hd2 => rfl
    case hw2 => rfl
    case hy2 => (intro w hSw; (try dsimp only at hSw); go_simp; try with_reducible rfl)
    try simp only [Act.put, List.setIfInBounds_toArray, List.set_cons_zero, List.set_cons_succ]
    refine till_take (i := 2) (oi := ?o3) (d := (some 34)) (v := ?v3) ?hi3 (by kernel_rfl) (by kernel_rfl) (by kernel_rfl) (by kernel_rfl) (by kernel_rfl) (fun _ _ _ h => h) ?hd3 ?hw3 ?hy3 hHeld ?_
    case hi3 => (simp only [List.getElem?_toArray, List.getElem?_cons_zero, List.getElem?_cons_succ]; exact rfl)
    case hd3 => rfl
    case hw3 => rfl
    case hy3 => (intro w hSw; (try dsimp only at hSw); go_simp; try with_reducible rfl)
    try simp only [Act.put, List.setIfInBounds_toArray, List.set_cons_zero, List.set_cons_succ]
    refine till_take (i := 3) (oi := ?o4) (d := (some 35)) (v := ?v4) ?hi4 (by kernel_rfl) (by kernel_rfl) (by kernel_rfl) (by kernel_rfl) (by kernel_rfl) (fun _ _ _ h => h) ?hd4 ?hw4 ?hy4 hHeld ?_
    case hi4 => (simp only [List.getElem?_toArray, List.getElem?_cons_zero, List.getElem?_cons_succ]; exact rfl)
    case hd4 => rfl
    case hw4 => rfl
    case hy4 => (intro w hSw; (try dsimp only at hSw); go_simp; try with_reducible rfl)
    try simp only [Act.put, List.setIfInBounds_toArray, List.set_cons_zero, List.set_cons_succ]
    refine till_take (i := 4) (oi := ?o5) (d := (some 36)) (v := ?v5) ?hi5 (by kernel_rfl) (by kernel_rfl) (by kernel_rfl) (by kernel_rfl) (by kernel_rfl) (fun _ _ _ h => h) ?hd5 ?hw5 ?hy5 hHeld ?_
    case hi5 => (simp only [List.getElem?_toArray, List.getElem?_cons_zero, List.getElem?_cons_succ]; exact rfl)
    case hd5 => rfl
    case hw5 => rfl
    case hy5 => (intro w hSw; (try dsimp only at hSw); go_simp; try with_reducible rfl)
    try simp only [Act.put, List.setIfInBounds_toArray, List.set_cons_zero, List.set_cons_succ]
    refine till_take (i := 5) (oi := ?o6) (d := (some 37)) (v := ?v6) ?hi6 (by kernel_rfl) (by kernel_rfl) (by kernel_rfl) (by kernel_rfl) (by kernel_rfl) (fun _ _ _ h => h) ?hd6 ?hw6 ?hy6 hHeld ?_
    case hi6 => (simp only [List.getElem?_toArray, List.getElem?_cons_zero, List.getElem?_cons_succ]; exact rfl)
    case hd6 => rfl
    case hw6 => rfl
    case hy6 => (intro w hSw; (try dsimp only at hSw); go_simp; try with_reducible rfl)
    try simp only [Act.put, List.setIfInBounds_toArray, List.set_cons_zero, List.set_cons_succ]
    refine till_take (i := 6) (oi := ?o7) (d := (some 38)) (v := ?v7) ?hi7 (by kernel_rfl) (by kernel_rfl) (by kernel_rfl) (by kernel_rfl) (by kernel_rfl) (fun _ _ _ h => h) ?hd7 ?hw7 ?hy7 hHeld ?_
    case hi7 => (simp only [List.getElem?_toArray, List.getElem?_cons_zero, List.getElem?_cons_succ]; exact rfl)
    case hd7 => rfl
    case hw7 => rfl
    case hy7 => (intro w hSw; (try dsimp only at hSw); go_simp; try with_reducible rfl)
    try simp only [Act.put, List.setIfInBounds_toArray, List.set_cons_zero, List.set_cons_succ]
    refine till_take (i := 7) (oi := ?o8) (d := (some 39)) (v := ?v8) ?hi8 (by kernel_rfl) (by kernel_rfl) (by kernel_rfl) (by kernel_rfl) (by kernel_rfl) (fun _ _ _ h => h) ?hd8 ?hw8 ?hy8 hHeld ?_
    case hi8 => (simp only [List.getElem?_toArray, List.getElem?_cons_zero, List.getElem?_cons_succ]; exact rfl)
    case hd8 => rfl
    case hw8 => rfl
    case hy8 => (intro w hSw; (try dsimp only at hSw); go_simp; try with_reducible rfl)
    try simp only [Act.put, List.setIfInBounds_toArray, List.set_cons_zero, List.set_cons_succ]
    refine till_take (i := 8) (oi := ?o9) (d := (some 40)) (v := ?v9) ?hi9 (by kernel_rfl) (by kernel_rfl) (by kernel_rfl) (by kernel_rfl) (by kernel_rfl) (fun _ _ _ h => h) ?hd9 ?hw9 ?hy9 hHeld ?_
    case hi9 => (simp only [List.getElem?_toArray, List.getElem?_cons_zero, List.getElem?_cons_succ]; exact rfl)
    case hd9 => rfl
    case hw9 => rfl
    case hy9 => (intro w hSw; (try dsimp only at hSw); go_simp; try with_reducible rfl)
    try simp only [Act.put, List.setIfInBounds_toArray, List.set_cons_zero, List.set_cons_succ]
    refine till_take (i := 9) (oi := ?o10) (d := (some 41)) (v := ?v10) ?hi10 (by kernel_rfl) (by kernel_rfl) (by kernel_rfl) (by kernel_rfl) (by kernel_rfl) (fun _ _ _ h => h) ?hd10 ?hw10 ?hy10 hHeld ?_
    case hi10 => (simp only [List.getElem?_toArray, List.getElem?_cons_zero, List.getElem?_cons_succ]; exact rfl)
    case hd10 => rfl
    case hw10 => rfl
    case hy10 => (intro w hSw; (try dsimp only at hSw); go_simp; try with_reducible rfl)
    try simp only [Act.put, List.setIfInBounds_toArray, List.set_cons_zero, List.set_cons_succ]
    refine till_take (i := 10) (oi := ?o11) (d := (some 42)) (v := ?v11) ?hi11 (by kernel_rfl) (by kernel_rfl) (by kernel_rfl) (by kernel_rfl) (by kernel_rfl) (fun _ _ _ h => h) ?hd11 ?hw11 ?hy11 hHeld ?_
    case hi11 => (simp only [List.getElem?_toArray, List.getElem?_cons_zero, List.getElem?_cons_succ]; exact rfl)
    case hd11 => rfl
    case hw11 => rfl
    case hy11 => (intro w hSw; (try dsimp only at hSw); go_simp; try with_reducible rfl)
    try simp only [Act.put, List.setIfInBounds_toArray, List.set_cons_zero, List.set_cons_succ]
    refine till_take (i := 11) (oi := ?o12) (d := (some 43)) (v := ?v12) ?hi12 (by kernel_rfl) (by kernel_rfl) (by kernel_rfl) (by kernel_rfl) (by kernel_rfl) (fun _ _ _ h => h) ?hd12 ?hw12 ?hy12 hHeld ?_
    case hi12 => (simp only [List.getElem?_toArray, List.getElem?_cons_zero, List.getElem?_cons_succ]; exact rfl)
    case hd12 => rfl
    case hw12 => rfl
    case hy12 => (intro w hSw; (try dsimp only at hSw); go_simp; try with_reducible rfl)
    try simp only [Act.put, List.setIfInBounds_toArray, List.set_cons_zero, List.set_cons_succ]
    refine till_take (i := 12) (oi := ?o13) (d := (some 44)) (v := ?v13) ?hi13 (by kernel_rfl) (by kernel_rfl) (by kernel_rfl) (by kernel_rfl) (by kernel_rfl) (fun _ _ _ h => h) ?hd13 ?hw13 ?hy13 hHeld ?_
    case hi13 => (simp only [List.getElem?_toArray, List.getElem?_cons_zero, List.getElem?_cons_succ]; exact rfl)
    case hd13 => rfl
    case hw13 => rfl
    case hy13 => (intro w hSw; (try dsimp only at hSw); go_simp; try with_reducible rfl)
    try simp only [Act.put, List.setIfInBounds_toArray, List.set_cons_zero, List.set_cons_succ]
    refine till_take (i := 13) (oi := ?o14) (d := (some 45)) (v := ?v14) ?hi14 (by kernel_rfl) (by kernel_rfl) (by kernel_rfl) (by kernel_rfl) (by kernel_rfl) (fun _ _ _ h => h) ?hd14 ?hw14 ?hy14 hHeld ?_
    case hi14 => (simp only [List.getElem?_toArray, List.getElem?_cons_zero, List.getElem?_cons_succ]; exact rfl)
    case hd14 => rfl
    case hw14 => rfl
    case hy14 => (intro w hSw; (try dsimp only at hSw); go_simp; try with_reducible rfl)
    try simp only [Act.put, List.setIfInBounds_toArray, List.set_cons_zero, List.set_cons_succ]
    refine till_take (i := 14) (oi := ?o15) (d := (some 46)) (v := ?v15) ?hi15 (by kernel_rfl) (by kernel_rfl) (by kernel_rfl) (by kernel_rfl) (by kernel_rfl) (fun _ _ _ h => h) ?hd15 ?hw15 ?hy15 hHeld ?_
    case hi15 => (simp only [List.getElem?_toArray, List.getElem?_cons_zero, List.getElem?_cons_succ]; exact rfl)
    case hd15 => rfl
    case hw15 => rfl
    case hy15 => (intro w hSw; (try dsimp only at hSw); go_simp; try with_reducible rfl)
    try simp only [Act.put, List.setIfInBounds_toArray, List.set_cons_zero, List.set_cons_succ]
    refine AnyTill.step (i := 15) (by kernel_rfl) (by kernel_rfl) rfl (fun K hK => ?_)
    go_simp
    refine (Hp.Push_in q.H q.hp q.hl q.hn q.hf x.til x.id w4.drew (HC4.out.below (ext_drew (Below.refl _ _))).due (by omega) (by omega)).mono ?_
    rintro e w5 ⟨rfl, hI5, hTp⟩
    have hcd := HC4.out.below (ext_drew (Below.refl _ _))
    have hc5 := hcd.due_step hTp hI5
    have hA5 : Arr w5 vb 78 #[.int .u32 x.id, .int .i64 x.seat, .int .i64 x.til] := hTp.arr (show Arr w4.drew vb _ _ from HA4.out) (fun hk => by have h1 := HH.out.comp.lt vb (HH.out.comp.apart vb hk).1; have h2 := HVB.out; omega)
    have hT5 : Tch S w w5 := (HT4.out.below (ext_drew (Below.refl _ _))).trans (hTp.mono fun k _ hk => (HH.out.comp.apart k hk).1)
    have x9' : w5.cell? ⟨b, 9, none⟩ = some (.pointer (some ⟨q.hp, 0, none⟩)) := hc5.own.cell 9
    have x10' : w5.cell? ⟨b, 10, none⟩ = some (.map (some q.mb)) := hc5.own.cell 10
    have y0' : w5.cell? ⟨vb, 0, none⟩ = some (.int .u32 x.id) := hA5.cell 0
    have y2'' : w5.cell? ⟨vb, 2, none⟩ = some (.int .i64 x.til) := hA5.cell 2
    have HC5 := Lib.hid hc5
    have HT5 := Lib.hid hT5
    clear hcd hc5 hA5 hT5 hI5 hTp
    go_wp2_with fail
    refine hK.out _ _ (by first | exact ⟨x9', x10', y0', y2''⟩) (fun hHeld15 => ?_)
    clear hK K
    try simp only [Act.put, List.setIfInBounds_toArray, List.set_cons_zero, List.set_cons_succ]
    refine till_pure (i := 16) (oi := ?o16) (d := (some 31)) (v := ?v16) ?hi16 (by kernel_rfl) (by kernel_rfl) (by kernel_rfl) (by kernel_rfl) (fun _ _ _ h => h) ?hd16 ?hw16 ?hy16 hHeld15 ?_
    case hi16 => (simp only [List.getElem?_toArray, List.getElem?_cons_zero, List.getElem?_cons_succ]; exact rfl)
    case hd16 => rfl
    case hw16 => rfl
    case hy16 => (intro w; go_simp; try with_reducible rfl)
    try simp only [Act.put, List.setIfInBounds_toArray, List.set_cons_zero, List.set_cons_succ]
    refine till_pure (i := 17) (oi := ?o17) (d := (some 48)) (v := ?v17) ?hi17 (by kernel_rfl) (by kernel_rfl) (by kernel_rfl) (by kernel_rfl) (fun _ _ _ h => h) ?hd17 ?hw17 ?hy17 hHeld15 ?_
    case hi17 => (simp only [List.getElem?_toArray, List.getElem?_cons_zero, List.getElem?_cons_succ]; exact rfl)
    case hd17 => rfl
    case hw17 => rfl
    case hy17 => (intro w; go_simp; try with_reducible rfl)
    try simp only [Act.put, List.setIfInBounds_toArray, List.set_cons_zero, List.set_cons_succ]
    refine till_pure (i := 18) (oi := ?o18) (d := (some 49)) (v := ?v18) ?hi18 (by kernel_rfl) (by kernel_rfl) (by kernel_rfl) (by kernel_rfl) (fun _ _ _ h => h) ?hd18 ?hw18 ?hy18 hHeld15 ?_
    case hi18 => (simp only [List.getElem?_toArray, List.getElem?_cons_zero, List.getElem?_cons_succ]; exact rfl)
    case hd18 => rfl
    case hw18 => rfl
    case hy18 => (intro w; go_simp; try with_reducible rfl)
    try simp only [Act.put, List.setIfInBounds_toArray, List.set_cons_zero, List.set_cons_succ]
    refine AnyTill.last (by kernel_rfl) ?_
    refine any_drop 19 (by kernel_rfl) (by kernel_rfl) ?_
    simp only [List.drop_succ_cons, List.drop_zero]
    refine wpList_mapUpdate_at rfl _ _ _ 48 rfl 33 3 .u32 Tryz.underlying33 Tryz.underlying3 Tryz.underlying48 q.mb q.hm q.φ rfl HC5.out.held (by unfold maxLen; omega) x.id q.hn rfl rfl (WalkArith.wf_u32 (by omega)) (WalkArith.wf_i64 (by have := HH.out.comp.due.bound; omega)) ?_
    intro w6 hm6 hg6
    have hTm : Tch (· = q.mb) w5 w6 := (Tch.refl _ _).grown hg6 (fun k e => .inl (by injection e with e; exact e.symm))
    have hc6 := HC5.out.held_step hTm hm6
    have hT6 : Tch S w w6 := HT5.out.trans (hTm.mono fun k _ hk => by subst hk; exact HH.out.comp.foot.2.2.2.2.2)
    have HC6 := Lib.hid hc6; have HT6 := Lib.hid hT6; have HZ := Lib.hid hTm.size; have HZ4 := Lib.hid HT4.out.size
    clear hm6 hg6 hTm hc6 hT6 HC5 HT5 x9 x10 y0 y1 x9' x10' y0' y2'' hHeld15 hHeld HC4 HA4 HT4
    go_wp2_with fail
    refine bodyPost_end (results_none Tryz.results40 _ _ _) rfl ⟨⟨_, rfl⟩, ⟨_, HH.out.more hfresh hfree hx HIM.out HIS.out (HC6.out.mono (T := fun k => (S k ∨ w.heap.size ≤ k) ∧ k < w6.heap.size) (fun k hk => ?_) (fun k hk => hk.2)) rfl rfl rfl rfl ⟨by show q.hl + 1 ≤ _; omega, by show q.hn + 1 ≤ _; omega, ?_⟩⟩, HT6.out⟩
    · have h1 := HZ.out
      have h2 := HZ4.out
      refine ⟨?_, Nat.lt_of_lt_of_le hk.2 h1⟩
      rcases hk.1 with hk | hk
      · exact .inl hk
      · have hk' : w4.heap.size ≤ k := hk
        exact .inr (by omega)
    · show (if (q.φ x.id).isSome = true then q.hm else q.hm + 1) ≤ _
      split <;> omega

end Go.Proofs.YtpoijhjjbmaedaaGreatDoor.Bk
end

/- Book3: The book: New. -/
section
namespace Go.Proofs.YtpoijhjjbmaedaaGreatDoor.Bk
open Go.RowKit
open Go.Proofs.YtpoijhjjbmaedaaGreatDoor.Bit (SetAt hasB)
open Go.Proofs.YtpoijhjjbmaedaaGreatDoor.Idx (IdxOk Slot)
open Go.Proofs.YtpoijhjjbmaedaaGreatDoor.Hp (HeapIn Due)

set_option maxRecDepth 100000 in
set_option maxHeartbeats 2000000 in
theorem New_no (a b c : Int) (w : World) (h : Geo.okS a b c = false) : Calls Tryz.prog 38 #[.agg #[.int .i64 a, .int .i64 b, .int .i64 c]] w fun e w' => e = .returned (.tuple #[.pointer none, .int .i64 90]) ∧ Below w.heap.size w w' := by
  have HC := Lib.hid (fun W => Geo.check_no a b c W h)
  clear h
  go_enter Tryz.func38, Tryz.ntmps38
  go_wp2_with fail
  refine (HC.out _).mono ?_
  rintro e w1 ⟨rfl, hb⟩
  have HB := Lib.hid (ext_trans (ext_alloc (Below.refl w.heap.size w) (.cells #[.int .i64 a, .int .i64 b, .int .i64 c] 26)) hb)
  clear hb
  go_wp2_with fail
  go_ret2
  exact ⟨rfl, HB.out⟩

def NewOut (n codes : Nat) (group : Int) (w : World) (e : Ending) (w' : World) : Prop := ∃ b S q, e = .returned (.tuple #[.pointer (some ⟨b, 0, none⟩), .int .i64 0]) ∧ BookAt S w' b n codes group 1 0 [] q ∧ (∀ k, S k → w.heap.size ≤ k) ∧ Below w.heap.size w w'
def bookC (n codes : Nat) (group : Int) (sg mb : Nat) : Array Value := #[.int .i64 n, .int .i64 codes, .int .i64 group, .bool true, .int .i64 0, .int .u32 1, .pointer none, .pointer none, .slice (some ⟨sg, 0, none⟩) n n, .pointer none, .map (some mb)]
theorem cnt_zero {f : Nat → Slot} {t : Nat} (h : ∀ i, (f i).state ≠ t) : ∀ n, Idx.cnt f t n = 0
  | 0 => rfl
  | n + 1 => by rw [Idx.cnt, cnt_zero h n, if_neg (h n)]
theorem new_join {n codes : Nat} {group : Int} {w w1 w5 w6 w7 w8 w9 w10 : World} {sh sg mb b tp tg ip ig m hp : Nat} (hsh : w.heap.size = sh) (hn : 1 ≤ n ∧ n ≤ 1024) (hc : 1 ≤ codes ∧ codes ≤ 4096)
    (hb1 : Below w.heap.size w w1) (hb5 : Below w1.heap.size w1 w5) (hr5 : RowIn (· = sg) w5 78 3 (.slice (some ⟨sg, 0, none⟩) n n) n (fun _ => bkgL ⟨0, 0, 0⟩)) (hm5 : MapAt Tryz.prog 33 3 .u32 w5 mb 0 (fun _ => none))
    (hg5 : w1.heap.size ≤ sg ∧ w1.heap.size ≤ mb ∧ w1.heap.size ≤ b) (hbk5 : Arr w5 b 50 #[.int .i64 n, .int .i64 codes, .int .i64 group, .bool true, .int .i64 0, .int .u32 1, .pointer none, .pointer none, .slice (some ⟨sg, 0, none⟩) n n, .pointer none, .map (some mb)])
    (hS6 : SetAt w6 tp tg ((n + 63) / 64) n (fun _ => 0)) (h61 : w5.heap.size ≤ tp ∧ w5.heap.size ≤ tg) (hb6 : Below w5.heap.size w5 w6) (T67 : Tch (· = b) w6 w7)
    (hI8 : Idx.IdxAt w8 ip ig m codes 0 0 0 (fun _ => ⟨0, 0, 0⟩)) (h81 : (2 * codes ≤ m ∧ m ≤ 4 * codes) ∧ (w7.heap.size ≤ ip ∧ w7.heap.size ≤ ig)) (hb8 : Below w7.heap.size w7 w8) (T89 : Tch (· = b) w8 w9)
    (hH10 : HeapIn (fun k => w9.heap.size ≤ k) w10 hp 0 0 (fun _ => ⟨0, 0, 0⟩)) (hb10 : Below w9.heap.size w9 w10) (hbk10 : Arr w10 b 50 #[.int .i64 n, .int .i64 codes, .int .i64 group, .bool true, .int .i64 0, .int .u32 1, .pointer (some ⟨tp, 0, none⟩), .pointer (some ⟨ip, 0, none⟩), .slice (some ⟨sg, 0, none⟩) n n, .pointer none, .map (some mb)]) :
    NewOut n codes group w (.returned (.tuple #[.pointer (some ⟨b, 0, none⟩), .int .i64 0])) (w10.setCell ⟨b, 9, none⟩ (.pointer (some ⟨hp, 0, none⟩))) := by
  have T1011 : Tch (· = b) w10 (w10.setCell ⟨b, 9, none⟩ (.pointer (some ⟨hp, 0, none⟩))) := (Tch.refl (fun k => k = b) w10).put (p := ⟨b, 9, none⟩) (.inl rfl) _
  have hs11 : (w10.setCell ⟨b, 9, none⟩ (.pointer (some ⟨hp, 0, none⟩))).heap.size = w10.heap.size := by simp
  have hown := hbk10.put 9 (.pointer (some ⟨hp, 0, none⟩))
  obtain ⟨w11, hw11⟩ : ∃ w11, w10.setCell ⟨b, 9, none⟩ (.pointer (some ⟨hp, 0, none⟩)) = w11 := ⟨_, rfl⟩
  rw [hw11] at T1011 hs11 hown ⊢
  have T911 : Tch (· = b) w9 w11 := ((Tch.refl _ _).below hb10).trans T1011
  have T811 := T89.trans T911
  have T711 : Tch (· = b) w7 w11 := ((Tch.refl _ _).below hb8).trans T811
  have T611 := T67.trans T711
  have T511 : Tch (· = b) w5 w11 := ((Tch.refl _ _).below hb6).trans T611
  have z1 := hb1.size; have z5 := hb5.size; have z6 := hb6.size; have z7 := T67.size; have z8 := hb8.size; have z9 := T89.size; have z10 := hb10.size
  obtain ⟨cs, asg⟩ := hr5.arr
  have lsg := asg.lt
  have lmb := hm5.lt
  have lb := hbk5.lt
  have ltp := hS6.own.lt
  obtain ⟨cur, htg, _⟩ := hS6.row
  have ltg : tg < w6.heap.size := Arr.lt (t := 139) (cs := cur) htg
  have lip := hI8.own.lt
  have lig := hI8.rows.lt
  have nsg : ¬ sg = b := arr_ne asg hbk5 (by decide)
  have nmb : ¬ mb = b := fun e => Hp.map_ne_arr hm5 hbk5 e.symm
  refine ⟨b, fun k => w.heap.size ≤ k ∧ k < w11.heap.size, { tp := tp, tg := tg, tc := (n + 63) / 64, ip := ip, ig := ig, m := m, sg := sg, sc := n, hp := hp, hl := 0, mb := mb, hm := 0, ws := fun _ => 0, f := fun _ => ⟨0, 0, 0⟩, sb := fun _ => ⟨0, 0, 0⟩, hn := 0, hf := fun _ => ⟨0, 0, 0⟩, φ := fun _ => none, H := fun k => w9.heap.size ≤ k ∧ k < w11.heap.size }, rfl, ⟨⟨hown, ?_, ?_, ?_, ?_, ?_, ?_, ?_, fun k hk => hk.2⟩, ?_, ?_, ?_, ?_, ?_⟩, fun k hk => hk.1, ?_⟩
  · exact SetAt_same hS6 (T611.block tp ltp (by omega)) (T611.block tg ltg (by omega))
  · have hTab : Idx.Tab (fun _ => ⟨0, 0, 0⟩) m := ⟨fun i _ => Nat.zero_le _, fun i j _ _ h => (by cases h), fun id e _ h => (by cases h)⟩
    have hc1 : Idx.cnt (fun _ => (⟨0, 0, 0⟩ : Slot)) 1 m = 0 := cnt_zero (fun _ => (by decide : (0 : Nat) ≠ 1)) m
    have hc2 : Idx.cnt (fun _ => (⟨0, 0, 0⟩ : Slot)) 2 m = 0 := cnt_zero (fun _ => (by decide : (0 : Nat) ≠ 2)) m
    exact IdxOk.same (w := w8) ⟨⟨0, hI8⟩, hTab, hc1, hc2, (show 0 ≤ codes ∧ 2 * codes ≤ m ∧ 1 ≤ codes ∧ codes ≤ 4096 ∧ m ≤ 16384 by omega)⟩ (T811.block ip lip (by omega)) (T811.block ig lig (by omega))
  · exact (hr5.same1 (T511.block sg lsg nsg)).mono fun k hk _ => by have : k = sg := hk; omega
  · exact (hH10.same fun k hk hk2 => T1011.block k hk2 (by have : w9.heap.size ≤ k := hk; omega)).mono fun k hk hk2 => ⟨hk, hk2⟩
  · exact hm5.same (T511.block mb lmb nmb)
  · exact ⟨⟨by omega, by omega⟩, ⟨(show w.heap.size ≤ tp by omega), (show tp < w11.heap.size by omega)⟩, ⟨(show w.heap.size ≤ tg by omega), (show tg < w11.heap.size by omega)⟩, ⟨(show w.heap.size ≤ ip by omega), (show ip < w11.heap.size by omega)⟩, ⟨(show w.heap.size ≤ ig by omega), (show ig < w11.heap.size by omega)⟩, ⟨(show w.heap.size ≤ mb by omega), (show mb < w11.heap.size by omega)⟩⟩
  · intro k hk
    obtain ⟨h1, h2⟩ : w9.heap.size ≤ k ∧ k < w11.heap.size := hk
    exact ⟨⟨by omega, h2⟩, by omega, (show k ≠ tp by omega), (show k ≠ tg by omega), (show k ≠ ip by omega), (show k ≠ ig by omega), (show k ≠ sg by omega), (show k ≠ mb by omega)⟩
  · intro i hi
    have : hasB (fun _ => 0) i = false := by unfold hasB; exact Nat.zero_testBit _
    rw [this]
    simp
  · intro x hx; cases hx
  · intro j hj h; cases h
  · intro x hx; cases hx
  · exact ⟨Nat.le_refl _, Int.le_refl _, Nat.le_refl _, hn⟩
  · have T1 : Tch (· = b) w1 w11 := ((Tch.refl _ _).below hb5).trans T511
    exact Tch.to_below hb1 T1 (fun k hk => by have : k = b := hk; omega)

set_option maxRecDepth 100000 in
set_option maxHeartbeats 2000000 in
theorem New_yes (n codes : Nat) (group : Int) (w : World) (h : Geo.okS n codes group = true) : Calls Tryz.prog 38 #[.agg #[.int .i64 n, .int .i64 codes, .int .i64 group]] w (NewOut n codes group w) := by
  obtain ⟨i0, hi, hz0, hz1, hz2⟩ := info_parts bkg_info
  have hok := Geo.okS_yes h
  have hmm := @run_makeMap Tryz.prog
  have HC := Lib.hid (fun W => Geo.check_yes n codes group W h)
  have hn1 : 1 ≤ n ∧ n ≤ 1024 := by omega
  have hcd1 : 1 ≤ codes ∧ codes ≤ 4096 := by omega
  have hnz : ¬ (n : Int) < 0 := by omega
  clear h hok
  go_enter Tryz.func38, Tryz.ntmps38
  go_wp2_with fail
  refine (HC.out _).mono ?_
  rintro e w1 ⟨rfl, hb1⟩
  have hA0 := (Arr.fresh w 26 #[.int .i64 n, .int .i64 codes, .int .i64 group]).keep hb1
  have hB1 := ext_trans (ext_alloc (Below.refl w.heap.size w) (.cells #[.int .i64 n, .int .i64 codes, .int .i64 group] 26)) hb1
  obtain ⟨sh, hsh⟩ : ∃ sh, w.heap.size = sh := ⟨_, rfl⟩
  rw [hsh] at hA0 ⊢
  have HSH := Lib.hid hsh
  have HCS : ∀ w', Below w1.heap.size w1 w' → (w'.cell? ⟨sh, 0, none⟩ = some (.int .i64 n) ∧ w'.cell? ⟨sh, 1, none⟩ = some (.int .i64 codes) ∧ w'.cell? ⟨sh, 2, none⟩ = some (.int .i64 group) ∧ Below w1.heap.size w1 w') := fun w' hb => ⟨(hA0.keep hb).cell 0, (hA0.keep hb).cell 1, (hA0.keep hb).cell 2, hb⟩
  have HCS := Lib.hid HCS
  have HB1 := Lib.hid hB1
  have HA0 := Lib.hid hA0
  clear hb1 hA0 hB1 hsh
  go_wp2_with fail
  refine wp_region_held_drew (S := (fun w' => w'.cell? ⟨sh, 0, none⟩ = some (.int .i64 n) ∧ w'.cell? ⟨sh, 1, none⟩ = some (.int .i64 codes) ∧ w'.cell? ⟨sh, 2, none⟩ = some (.int .i64 group) ∧ Below w1.heap.size w1 w')) (by kernel_rfl) (by exact HCS.out _ (ext_drew (Below.refl _ _))) (fun hHeld => ?_)
  refine take_yes (i := 0) (oi := ?o1) (d := (some 11)) (v := ?v1) ?hi1 (by kernel_rfl) (by kernel_rfl) (by kernel_rfl) (fun _ _ _ h => h) ?hd1 ?hw1 ?hy1 hHeld ?_
  case hi1 => (simp only [List.getElem?_toArray, List.getElem?_cons_zero]; exact rfl)
  case hd1 => rfl
  case hw1 => rfl
  case hy1 => (intro w hSw; (try dsimp only at hSw); go_simp; try with_reducible rfl)
  try simp only [Act.put, List.setIfInBounds_toArray, List.set_cons_zero, List.set_cons_succ]
  refine take_yes (i := 1) (oi := ?o2) (d := (some 12)) (v := ?v2) ?hi2 (by kernel_rfl) (by kernel_rfl) (by kernel_rfl) (fun _ _ _ h => h) ?hd2 ?hw2 ?hy2 hHeld ?_
  case hi2 => (simp only [List.getElem?_toArray, List.getElem?_cons_zero, List.getElem?_cons_succ]; exact rfl)
  case hd2 => rfl
  case hw2 => rfl
  case hy2 => (intro w hSw; (try dsimp only at hSw); go_simp; try with_reducible rfl)
  try simp only [Act.put, List.setIfInBounds_toArray, List.set_cons_zero, List.set_cons_succ]
  refine take_yes (i := 2) (oi := ?o3) (d := (some 13)) (v := ?v3) ?hi3 (by kernel_rfl) (by kernel_rfl) (by kernel_rfl) (fun _ _ _ h => h) ?hd3 ?hw3 ?hy3 hHeld ?_
  case hi3 => (simp only [List.getElem?_toArray, List.getElem?_cons_zero, List.getElem?_cons_succ]; exact rfl)
  case hd3 => rfl
  case hw3 => rfl
  case hy3 => (intro w hSw; (try dsimp only at hSw); go_simp; try with_reducible rfl)
  try simp only [Act.put, List.setIfInBounds_toArray, List.set_cons_zero, List.set_cons_succ]
  refine take_yes (i := 3) (oi := ?o4) (d := (some 14)) (v := ?v4) ?hi4 (by kernel_rfl) (by kernel_rfl) (by kernel_rfl) (fun _ _ _ h => h) ?hd4 ?hw4 ?hy4 hHeld ?_
  case hi4 => (simp only [List.getElem?_toArray, List.getElem?_cons_zero, List.getElem?_cons_succ]; exact rfl)
  case hd4 => rfl
  case hw4 => rfl
  case hy4 => (intro w hSw; (try dsimp only at hSw); go_simp; try with_reducible rfl)
  try simp only [Act.put, List.setIfInBounds_toArray, List.set_cons_zero, List.set_cons_succ]
  refine wpAnyH_ready (rs := [4, 5]) (by kernel_rfl) (by simp) ?_
  refine AllReadyH.cons rfl (fun K hK => ?_) (AllReadyH.cons rfl (fun K hK => ?_) AllReadyH.nil)
  · rw [if_pos (by rfl)]
    refine wp_make_rows _ (.tmp 14) (.tmp 14) 27 rfl 78 i0 (.agg #[.int .u32 0, .int .i64 0, .int .i64 0]) 3 Tryz.underlying27 hi hz0 hz1 rfl (by decide) n rfl rfl (by rw [hz2]; omega) (by unfold maxLen; omega) ?_
    intro w4 hr4 hg4
    have hb4 : Below w1.heap.size w1 w4 := Below.grown (ext_drew (Below.refl _ _)) hg4 (Nat.le_refl _) (by simp)
    obtain ⟨sg, hsg⟩ : ∃ sg, w1.heap.size = sg := ⟨_, rfl⟩
    have hr4' : RowIn (· = sg) w4 78 3 (.slice (some ⟨sg, 0, none⟩) n n) n (fun _ => bkgL ⟨0, 0, 0⟩) := hsg ▸ hr4
    rw [show (World.drew w1).heap.size = sg from hsg]
    have HR4 := Lib.hid hr4'; have HB4 := Lib.hid hb4; have HSG := Lib.hid hsg
    clear hr4 hg4 hr4' hsg
    refine hK.out _ _ (HCS.out _ HB4.out) (fun hHeld4 => ?_)
    clear hK K
    try simp only [Act.put, List.setIfInBounds_toArray, List.set_cons_zero, List.set_cons_succ]
    refine wpAnyH_ready (rs := [5]) (by kernel_rfl) (by simp) ?_
    refine AllReadyH.cons rfl (fun K hK => ?_) AllReadyH.nil
    go_simp
    go_wp2_with fail
    refine hK.out _ _ (HCS.out _ (ext_alloc HB4.out _)) (fun hHeld5 => ?_)
    clear hK K
    try simp only [Act.put, List.setIfInBounds_toArray, List.set_cons_zero, List.set_cons_succ]
    refine take_yes (i := 6) (oi := ?o5) (d := (some 17)) (v := ?v5) ?hi5 (by kernel_rfl) (by kernel_rfl) (by kernel_rfl) (fun _ _ _ h => h) ?hd5 ?hw5 ?hy5 hHeld5 ?_
    case hi5 => (simp only [List.getElem?_toArray, List.getElem?_cons_zero, List.getElem?_cons_succ]; exact rfl)
    case hd5 => rfl
    case hw5 => rfl
    case hy5 => (intro w hSw; (try dsimp only at hSw); go_simp; try with_reducible rfl)
    try simp only [Act.put, List.setIfInBounds_toArray, List.set_cons_zero, List.set_cons_succ]
    refine wpAnyH_ready (rs := [7]) (by kernel_rfl) (by simp) ?_
    refine AllReadyH.cons rfl (fun K hK => ?_) AllReadyH.nil
    go_simp
    go_wp2_with fail
    refine hK.out _ _ (HCS.out _ (ext_alloc (ext_alloc HB4.out _) _)) (fun hHeld7 => ?_)
    clear hK K
    try simp only [Act.put, List.setIfInBounds_toArray, List.set_cons_zero, List.set_cons_succ]
    refine take_yes (i := 8) (oi := ?o6) (d := (some 5)) (v := ?v6) ?hi6 (by kernel_rfl) (by kernel_rfl) (by kernel_rfl) (fun _ _ _ h => h) ?hd6 ?hw6 ?hy6 hHeld7 ?_
    case hi6 => (simp only [List.getElem?_toArray, List.getElem?_cons_zero, List.getElem?_cons_succ]; exact rfl)
    case hd6 => rfl
    case hw6 => rfl
    case hy6 => (intro w hSw; (try dsimp only at hSw); go_simp; try with_reducible rfl)
    try simp only [Act.put, List.setIfInBounds_toArray, List.set_cons_zero, List.set_cons_succ]
    refine wpAnyH_done (by kernel_rfl) ?_ _
    have hbk5 : Arr ((w4.alloc (.map #[] 0)).alloc (.cells #[.int .i64 n, .int .i64 codes, .int .i64 group, .bool true, .int .i64 0, .int .u32 1, .pointer none, .pointer none, .slice (some ⟨sg, 0, none⟩) n n, .pointer none, .map (some w4.heap.size)] 50)) (w4.heap.size + 1) 50 #[.int .i64 n, .int .i64 codes, .int .i64 group, .bool true, .int .i64 0, .int .u32 1, .pointer none, .pointer none, .slice (some ⟨sg, 0, none⟩) n n, .pointer none, .map (some (w4.heap.size))] := Arr.new (by simp)
    have hb5 : Below w1.heap.size w1 ((w4.alloc (.map #[] 0)).alloc (.cells #[.int .i64 n, .int .i64 codes, .int .i64 group, .bool true, .int .i64 0, .int .u32 1, .pointer none, .pointer none, .slice (some ⟨sg, 0, none⟩) n n, .pointer none, .map (some w4.heap.size)] 50)) := ext_alloc (ext_alloc HB4.out _) _
    have hr5 : RowIn (· = sg) ((w4.alloc (.map #[] 0)).alloc (.cells #[.int .i64 n, .int .i64 codes, .int .i64 group, .bool true, .int .i64 0, .int .u32 1, .pointer none, .pointer none, .slice (some ⟨sg, 0, none⟩) n n, .pointer none, .map (some w4.heap.size)] 50)) 78 3 (.slice (some ⟨sg, 0, none⟩) n n) n (fun _ => bkgL ⟨0, 0, 0⟩) := HR4.out.keep (ext_alloc (ext_alloc (Below.refl _ _) _) _)
    have hm5 : MapAt Tryz.prog 33 3 .u32 ((w4.alloc (.map #[] 0)).alloc (.cells #[.int .i64 n, .int .i64 codes, .int .i64 group, .bool true, .int .i64 0, .int .u32 1, .pointer none, .pointer none, .slice (some ⟨sg, 0, none⟩) n n, .pointer none, .map (some w4.heap.size)] 50)) (w4.heap.size) 0 (fun _ => none) := (MapAt.made _ _ _ _ w4).alloc _
    have hg5 : w1.heap.size ≤ sg ∧ w1.heap.size ≤ (w4.heap.size) ∧ w1.heap.size ≤ (w4.heap.size + 1) := by
      have h1 := HSG.out
      have h2 : w1.heap.size ≤ w4.heap.size := HB4.out.size
      omega
    obtain ⟨w5, hw5⟩ : ∃ w5, (w4.alloc (.map #[] 0)).alloc (.cells #[.int .i64 n, .int .i64 codes, .int .i64 group, .bool true, .int .i64 0, .int .u32 1, .pointer none, .pointer none, .slice (some ⟨sg, 0, none⟩) n n, .pointer none, .map (some w4.heap.size)] 50) = w5 := ⟨_, rfl⟩
    rw [hw5] at hbk5 hb5 hr5 hm5
    rw [show ((w4.alloc (.map #[] 0)).alloc (.cells #[.int .i64 n, .int .i64 codes, .int .i64 group, .bool true, .int .i64 0, .int .u32 1, .pointer none, .pointer none, .slice (some ⟨sg, 0, none⟩) n n, .pointer none, .map (some w4.heap.size)] 50)) = w5 from hw5]
    obtain ⟨b, hb⟩ : ∃ b, (w4.heap.size + 1) = b := ⟨_, rfl⟩
    obtain ⟨mb, hmb⟩ : ∃ mb, (w4.heap.size) = mb := ⟨_, rfl⟩
    simp only [hb] at hbk5 hm5 ⊢
    simp only [hmb] at hbk5 hm5 ⊢
    have hg5 : w1.heap.size ≤ sg ∧ w1.heap.size ≤ mb ∧ w1.heap.size ≤ b := by omega
    have HBK5 := Lib.hid hbk5; have HB5 := Lib.hid hb5; have HR5 := Lib.hid hr5; have HM5 := Lib.hid hm5; have HG5 := Lib.hid hg5
    clear hw5 hb hmb hbk5 hb5 hr5 hm5 hg5 HR4 HB4 HSG hHeld5 hHeld7 hHeld4 hHeld
    have c0 : w5.cell? ⟨sh, 0, none⟩ = some (.int .i64 n) := (HCS.out _ HB5.out).1
    go_wp2_with fail
    refine (Bit.New_in n (by omega) _).mono ?_
    rintro e w6 ⟨tp, tg, rfl, hS6, h61, h62, hb6⟩
    have hbk6 := HBK5.out.keep hb6
    have hshb : ¬ sh = b := by have h1 := HA0.out.lt; have h2 := HG5.out; omega
    have hbsh : ¬ b = sh := fun e => hshb e.symm
    have d1 : w6.cell? ⟨sh, 1, none⟩ = some (.int .i64 codes) := ((HA0.out.keep HB5.out).keep hb6).cell 1
    have k6 : w6.cell? ⟨b, 6, none⟩ = some (.pointer none) := hbk6.cell 6
    have m6 := hbk6.mark 6
    have hl6 := hbk6.lt
    have HS6 := Lib.hid hS6; have H61 := Lib.hid (And.intro h61 h62); have HB6 := Lib.hid hb6; have HBK6 := Lib.hid hbk6
    clear hS6 h61 h62 hb6 hbk6 c0
    go_wp2_with fail
    have hbk7 := HBK6.out.put 6 (.pointer (some ⟨tp, 0, none⟩))
    have T67 := (Tch.refl (· = b) w6).put (p := ⟨b, 6, none⟩) (.inl rfl) (.pointer (some ⟨tp, 0, none⟩))
    obtain ⟨w7, hw7⟩ : ∃ w7, w6.setCell ⟨b, 6, none⟩ (.pointer (some ⟨tp, 0, none⟩)) = w7 := ⟨_, rfl⟩
    rw [hw7] at hbk7 T67 ⊢
    have HBK7 := Lib.hid hbk7; have HT67 := Lib.hid T67
    clear hw7 hbk7 T67 d1 k6 m6 hl6
    refine (Idx.New_in codes hcd1.1 hcd1.2 w7).mono ?_
    rintro e w8 ⟨ip, ig, m, rfl, hI8, hm8, hm8', h81, h82, hb8⟩
    have hbk8 := HBK7.out.keep hb8
    have k7 : w8.cell? ⟨b, 7, none⟩ = some (.pointer none) := hbk8.cell 7
    have m7 := hbk8.mark 7
    have hl8 := hbk8.lt
    have HI8 := Lib.hid hI8; have H81 := Lib.hid (And.intro (And.intro hm8 hm8') (And.intro h81 h82)); have HB8 := Lib.hid hb8; have HBK8 := Lib.hid hbk8
    clear hI8 hm8 hm8' h81 h82 hb8 hbk8
    go_wp2_with fail
    have hbk9 := HBK8.out.put 7 (.pointer (some ⟨ip, 0, none⟩))
    have T89 := (Tch.refl (· = b) w8).put (p := ⟨b, 7, none⟩) (.inl rfl) (.pointer (some ⟨ip, 0, none⟩))
    obtain ⟨w9, hw9⟩ : ∃ w9, w8.setCell ⟨b, 7, none⟩ (.pointer (some ⟨ip, 0, none⟩)) = w9 := ⟨_, rfl⟩
    rw [hw9] at hbk9 T89 ⊢
    have HBK9 := Lib.hid hbk9; have HT89 := Lib.hid T89
    clear hw9 hbk9 T89 k7 m7 hl8
    refine (Hp.New_in w9).mono ?_
    rintro e w10 ⟨hp, rfl, hH10, hb10⟩
    have hbk10 := HBK9.out.keep hb10
    have k9 : w10.cell? ⟨b, 9, none⟩ = some (.pointer none) := hbk10.cell 9
    have m9 := hbk10.mark 9
    have hl10 := hbk10.lt
    have HH10 := Lib.hid hH10; have HB10 := Lib.hid hb10; have HBK10 := Lib.hid hbk10
    clear hH10 hb10 hbk10
    go_wp2_with fail
    go_ret2
    exact new_join HSH.out hn1 hcd1 HB1.out HB5.out HR5.out HM5.out HG5.out HBK5.out HS6.out H61.out HB6.out HT67.out HI8.out H81.out HB8.out HT89.out HH10.out HB10.out HBK10.out
  · go_simp
    go_wp2_with fail
    refine hK.out _ _ (HCS.out _ (ext_alloc (ext_drew (Below.refl _ _)) _)) (fun hHeld5 => ?_)
    clear hK K
    try simp only [Act.put, List.setIfInBounds_toArray, List.set_cons_zero, List.set_cons_succ]
    refine wpAnyH_ready (rs := [4]) (by kernel_rfl) (by simp) ?_
    refine AllReadyH.cons rfl (fun K hK => ?_) AllReadyH.nil
    rw [if_pos (by rfl)]
    refine wp_make_rows _ (.tmp 14) (.tmp 14) 27 rfl 78 i0 (.agg #[.int .u32 0, .int .i64 0, .int .i64 0]) 3 Tryz.underlying27 hi hz0 hz1 rfl (by decide) n rfl rfl (by rw [hz2]; omega) (by unfold maxLen; omega) ?_
    intro w4 hr4 hg4
    have hb4 : Below w1.heap.size w1 w4 := Below.grown (ext_alloc (ext_drew (Below.refl _ _)) _) hg4 (by simp) (by simp)
    obtain ⟨sg, hsg⟩ : ∃ sg, w1.heap.size + 1 = sg := ⟨_, rfl⟩
    have hsz : (w1.alloc (.map #[] 0)).drew.heap.size = sg := by rw [← hsg]; simp
    have hm4 : MapAt Tryz.prog 33 3 .u32 w4 w1.heap.size 0 (fun _ => none) := (MapAt.made _ _ _ _ w1.drew).same (hg4.block _ (by simp) (by simp))
    have hr4' : RowIn (· = sg) w4 78 3 (.slice (some ⟨sg, 0, none⟩) n n) n (fun _ => bkgL ⟨0, 0, 0⟩) := hsz ▸ hr4
    rw [show (w1.alloc (.map #[] 0)).drew.heap.size = sg from hsz]
    have HR4 := Lib.hid hr4'; have HB4 := Lib.hid hb4; have HSG := Lib.hid (show w1.heap.size ≤ sg ∧ sg < w4.heap.size by have := hr4'.form (by omega); obtain ⟨_, _, e, _, _, _, l⟩ := this; injection e with e; injection e with e; injection e with e; subst e; omega); have HM4 := Lib.hid hm4
    clear hr4 hg4 hr4' hsg hsz hm4 hb4
    refine hK.out _ _ (HCS.out _ HB4.out) (fun hHeld4 => ?_)
    clear hK K
    try simp only [Act.put, List.setIfInBounds_toArray, List.set_cons_zero, List.set_cons_succ]
    refine take_yes (i := 6) (oi := ?o7) (d := (some 17)) (v := ?v7) ?hi7 (by kernel_rfl) (by kernel_rfl) (by kernel_rfl) (fun _ _ _ h => h) ?hd7 ?hw7 ?hy7 hHeld4 ?_
    case hi7 => (simp only [List.getElem?_toArray, List.getElem?_cons_zero, List.getElem?_cons_succ]; exact rfl)
    case hd7 => rfl
    case hw7 => rfl
    case hy7 => (intro w hSw; (try dsimp only at hSw); go_simp; try with_reducible rfl)
    try simp only [Act.put, List.setIfInBounds_toArray, List.set_cons_zero, List.set_cons_succ]
    refine wpAnyH_ready (rs := [7]) (by kernel_rfl) (by simp) ?_
    refine AllReadyH.cons rfl (fun K hK => ?_) AllReadyH.nil
    go_simp
    go_wp2_with fail
    refine hK.out _ _ (HCS.out _ (ext_alloc HB4.out _)) (fun hHeld7 => ?_)
    clear hK K
    try simp only [Act.put, List.setIfInBounds_toArray, List.set_cons_zero, List.set_cons_succ]
    refine take_yes (i := 8) (oi := ?o8) (d := (some 5)) (v := ?v8) ?hi8 (by kernel_rfl) (by kernel_rfl) (by kernel_rfl) (fun _ _ _ h => h) ?hd8 ?hw8 ?hy8 hHeld7 ?_
    case hi8 => (simp only [List.getElem?_toArray, List.getElem?_cons_zero, List.getElem?_cons_succ]; exact rfl)
    case hd8 => rfl
    case hw8 => rfl
    case hy8 => (intro w hSw; (try dsimp only at hSw); go_simp; try with_reducible rfl)
    try simp only [Act.put, List.setIfInBounds_toArray, List.set_cons_zero, List.set_cons_succ]
    refine wpAnyH_done (by kernel_rfl) ?_ _
    have hbk5 : Arr (w4.alloc (.cells #[.int .i64 n, .int .i64 codes, .int .i64 group, .bool true, .int .i64 0, .int .u32 1, .pointer none, .pointer none, .slice (some ⟨sg, 0, none⟩) n n, .pointer none, .map (some w1.heap.size)] 50)) (w4.heap.size) 50 #[.int .i64 n, .int .i64 codes, .int .i64 group, .bool true, .int .i64 0, .int .u32 1, .pointer none, .pointer none, .slice (some ⟨sg, 0, none⟩) n n, .pointer none, .map (some (w1.heap.size))] := Arr.new (by simp)
    have hb5 : Below w1.heap.size w1 (w4.alloc (.cells #[.int .i64 n, .int .i64 codes, .int .i64 group, .bool true, .int .i64 0, .int .u32 1, .pointer none, .pointer none, .slice (some ⟨sg, 0, none⟩) n n, .pointer none, .map (some w1.heap.size)] 50)) := ext_alloc HB4.out _
    have hr5 : RowIn (· = sg) (w4.alloc (.cells #[.int .i64 n, .int .i64 codes, .int .i64 group, .bool true, .int .i64 0, .int .u32 1, .pointer none, .pointer none, .slice (some ⟨sg, 0, none⟩) n n, .pointer none, .map (some w1.heap.size)] 50)) 78 3 (.slice (some ⟨sg, 0, none⟩) n n) n (fun _ => bkgL ⟨0, 0, 0⟩) := HR4.out.keep (ext_alloc (Below.refl _ _) _)
    have hm5 : MapAt Tryz.prog 33 3 .u32 (w4.alloc (.cells #[.int .i64 n, .int .i64 codes, .int .i64 group, .bool true, .int .i64 0, .int .u32 1, .pointer none, .pointer none, .slice (some ⟨sg, 0, none⟩) n n, .pointer none, .map (some w1.heap.size)] 50)) (w1.heap.size) 0 (fun _ => none) := HM4.out.alloc _
    have hg5 : w1.heap.size ≤ sg ∧ w1.heap.size ≤ (w1.heap.size) ∧ w1.heap.size ≤ (w4.heap.size) := by
      have h1 := HSG.out
      have h2 : w1.heap.size ≤ w4.heap.size := HB4.out.size
      omega
    obtain ⟨w5, hw5⟩ : ∃ w5, w4.alloc (.cells #[.int .i64 n, .int .i64 codes, .int .i64 group, .bool true, .int .i64 0, .int .u32 1, .pointer none, .pointer none, .slice (some ⟨sg, 0, none⟩) n n, .pointer none, .map (some w1.heap.size)] 50) = w5 := ⟨_, rfl⟩
    rw [hw5] at hbk5 hb5 hr5 hm5
    rw [show (w4.alloc (.cells #[.int .i64 n, .int .i64 codes, .int .i64 group, .bool true, .int .i64 0, .int .u32 1, .pointer none, .pointer none, .slice (some ⟨sg, 0, none⟩) n n, .pointer none, .map (some w1.heap.size)] 50)) = w5 from hw5]
    obtain ⟨b, hb⟩ : ∃ b, (w4.heap.size) = b := ⟨_, rfl⟩
    obtain ⟨mb, hmb⟩ : ∃ mb, w1.heap.size = mb := ⟨_, rfl⟩
    simp only [hb] at hbk5 hm5 ⊢
    simp only [hmb] at hbk5 hm5 ⊢
    have hg5 : w1.heap.size ≤ sg ∧ w1.heap.size ≤ mb ∧ w1.heap.size ≤ b := by omega
    have HBK5 := Lib.hid hbk5; have HB5 := Lib.hid hb5; have HR5 := Lib.hid hr5; have HM5 := Lib.hid hm5; have HG5 := Lib.hid hg5
    clear hw5 hb hmb hbk5 hb5 hr5 hm5 hg5 HR4 HB4 HSG hHeld5 hHeld7 hHeld4 hHeld
    have c0 : w5.cell? ⟨sh, 0, none⟩ = some (.int .i64 n) := (HCS.out _ HB5.out).1
    go_wp2_with fail
    refine (Bit.New_in n (by omega) _).mono ?_
    rintro e w6 ⟨tp, tg, rfl, hS6, h61, h62, hb6⟩
    have hbk6 := HBK5.out.keep hb6
    have hshb : ¬ sh = b := by have h1 := HA0.out.lt; have h2 := HG5.out; omega
    have hbsh : ¬ b = sh := fun e => hshb e.symm
    have d1 : w6.cell? ⟨sh, 1, none⟩ = some (.int .i64 codes) := ((HA0.out.keep HB5.out).keep hb6).cell 1
    have k6 : w6.cell? ⟨b, 6, none⟩ = some (.pointer none) := hbk6.cell 6
    have m6 := hbk6.mark 6
    have hl6 := hbk6.lt
    have HS6 := Lib.hid hS6; have H61 := Lib.hid (And.intro h61 h62); have HB6 := Lib.hid hb6; have HBK6 := Lib.hid hbk6
    clear hS6 h61 h62 hb6 hbk6 c0
    go_wp2_with fail
    have hbk7 := HBK6.out.put 6 (.pointer (some ⟨tp, 0, none⟩))
    have T67 := (Tch.refl (· = b) w6).put (p := ⟨b, 6, none⟩) (.inl rfl) (.pointer (some ⟨tp, 0, none⟩))
    obtain ⟨w7, hw7⟩ : ∃ w7, w6.setCell ⟨b, 6, none⟩ (.pointer (some ⟨tp, 0, none⟩)) = w7 := ⟨_, rfl⟩
    rw [hw7] at hbk7 T67 ⊢
    have HBK7 := Lib.hid hbk7; have HT67 := Lib.hid T67
    clear hw7 hbk7 T67 d1 k6 m6 hl6
    refine (Idx.New_in codes hcd1.1 hcd1.2 w7).mono ?_
    rintro e w8 ⟨ip, ig, m, rfl, hI8, hm8, hm8', h81, h82, hb8⟩
    have hbk8 := HBK7.out.keep hb8
    have k7 : w8.cell? ⟨b, 7, none⟩ = some (.pointer none) := hbk8.cell 7
    have m7 := hbk8.mark 7
    have hl8 := hbk8.lt
    have HI8 := Lib.hid hI8; have H81 := Lib.hid (And.intro (And.intro hm8 hm8') (And.intro h81 h82)); have HB8 := Lib.hid hb8; have HBK8 := Lib.hid hbk8
    clear hI8 hm8 hm8' h81 h82 hb8 hbk8
    go_wp2_with fail
    have hbk9 := HBK8.out.put 7 (.pointer (some ⟨ip, 0, none⟩))
    have T89 := (Tch.refl (· = b) w8).put (p := ⟨b, 7, none⟩) (.inl rfl) (.pointer (some ⟨ip, 0, none⟩))
    obtain ⟨w9, hw9⟩ : ∃ w9, w8.setCell ⟨b, 7, none⟩ (.pointer (some ⟨ip, 0, none⟩)) = w9 := ⟨_, rfl⟩
    rw [hw9] at hbk9 T89 ⊢
    have HBK9 := Lib.hid hbk9; have HT89 := Lib.hid T89
    clear hw9 hbk9 T89 k7 m7 hl8
    refine (Hp.New_in w9).mono ?_
    rintro e w10 ⟨hp, rfl, hH10, hb10⟩
    have hbk10 := HBK9.out.keep hb10
    have k9 : w10.cell? ⟨b, 9, none⟩ = some (.pointer none) := hbk10.cell 9
    have m9 := hbk10.mark 9
    have hl10 := hbk10.lt
    have HH10 := Lib.hid hH10; have HB10 := Lib.hid hb10; have HBK10 := Lib.hid hbk10
    clear hH10 hb10 hbk10
    go_wp2_with fail
    go_ret2
    exact new_join HSH.out hn1 hcd1 HB1.out HB5.out HR5.out HM5.out HG5.out HBK5.out HS6.out H61.out HB6.out HT67.out HI8.out H81.out HB8.out HT89.out HH10.out HB10.out HBK10.out

end Go.Proofs.YtpoijhjjbmaedaaGreatDoor.Bk
end
