/- The book: Get, Len; the seats of the lines. -/
import Derived.Test.YtpoijhjjbmaedaaGreatDoorMan24
set_option linter.unusedVariables false
set_option linter.unusedSimpArgs false
namespace Go.Proofs.YtpoijhjjbmaedaaGreatDoor.Bk
open Go.RowKit
open Go.Proofs.YtpoijhjjbmaedaaGreatDoor.Bit (SetAt hasB)
open Go.Proofs.YtpoijhjjbmaedaaGreatDoor.Idx (Slot IdxAt IdxOk Find made_in seek seek_there probe home hsh Tab)

-- index.Get, an id that is there
set_option maxRecDepth 100000 in
set_option maxHeartbeats 2000000 in
theorem IdxGet (p g n most len graves : Nat) (id v : Int) (f : Nat → Slot) (w : World) (h : IdxOk w p g n most len graves f) (hid : 0 ≤ id ∧ id < 4294967296) (ht : ∃ i, i < n ∧ (f i).state = 1 ∧ (f i).id = id ∧ (f i).v = v) :
    Calls Tryz.prog 74 #[.pointer (some ⟨p, 0, none⟩), .int .u32 id] w fun e w' => e = .returned (.tuple #[.int .i64 v, .bool true]) ∧ IdxOk w' p g n most len graves f ∧ Tch (· = p) w w' := by
  obtain ⟨steps, hI⟩ := h.lies
  obtain ⟨i, hi, hs, he, hv⟩ := ht
  have hsk : seek f n id = ((i : Int), true) := by rw [← he]; exact seek_there h.tab hi hs
  have x0 : w.cell? ⟨p, 0, none⟩ = some (.slice (some ⟨g, 0, none⟩) n n) := hI.own.cell 0
  have hn := h.room
  have HF := Find p g n most len graves steps id f w hI (by omega) hn.2.2.2.2 hid h.tab.states
  have hF : Calls Tryz.prog 128 #[.pointer (some ⟨p, 0, none⟩), .int .u32 id] w fun e w' => e = .returned (.tuple #[.int .i64 (i : Int), .bool true]) ∧ (∃ s, IdxAt w' p g n most len graves s f) ∧ Tch (· = p) w w' := HF.mono fun e w' h1 => by
    have e1 : probe f id n n (hsh id % (n : Int)).toNat (-1) = ((i : Int), true) := hsk
    rw [e1] at h1
    exact h1
  have HH := Lib.hid h
  have HG := Lib.hid hF
  have hi1 : (i : Int) < (n : Int) := by omega
  have hi0 : (0 : Int) ≤ (i : Int) := by omega
  have HV := Lib.hid hv
  clear h hF HF hI hsk hs he hv
  go_enter Tryz.func74, Tryz.ntmps74
  go_wp2_with fail
  refine (made_in p g n w x0).mono ?_
  rintro e w1 ⟨rfl, hw⟩
  rw [hw]
  clear hw w1
  go_wp2_with fail
  refine HG.out.mono ?_
  rintro e w1 ⟨rfl, ⟨s, hI1⟩, hT1⟩
  have y0 : w1.cell? ⟨p, 0, none⟩ = some (.slice (some ⟨g, 0, none⟩) n n) := hI1.own.cell 0
  have y2 : w1.cell? ⟨g, i * 3 + 2, none⟩ = some (.int .i64 v) := by rw [← HV.out]; exact (hI1.rows.cell hi).2.2
  have HI1 := Lib.hid hI1
  have HT1 := Lib.hid hT1
  clear hI1 hT1
  go_wp2_with fail
  go_ret2
  exact ⟨rfl, ⟨⟨_, HI1.out⟩, HH.out.tab, HH.out.full, HH.out.grv, HH.out.room⟩, HT1.out⟩
-- index.Len
set_option maxRecDepth 100000 in
set_option maxHeartbeats 1000000 in
theorem IdxLen (p g n most len graves : Nat) (f : Nat → Slot) (w : World) (h : IdxOk w p g n most len graves f) :
    Calls Tryz.prog 68 #[.pointer (some ⟨p, 0, none⟩)] w fun e w' => e = .returned (.int .i64 len) ∧ w' = w := by
  obtain ⟨steps, hI⟩ := h.lies
  have x0 : w.cell? ⟨p, 0, none⟩ = some (.slice (some ⟨g, 0, none⟩) n n) := hI.own.cell 0
  have x2 : w.cell? ⟨p, 2, none⟩ = some (.int .i64 len) := hI.own.cell 2
  clear h hI
  go_enter Tryz.func68, Tryz.ntmps68
  go_wp2_with fail
  refine (made_in p g n w x0).mono ?_
  rintro e w1 ⟨rfl, hw⟩
  rw [hw]
  clear hw w1
  go_wp2_with fail
  go_ret
  exact ⟨rfl, rfl⟩
-- book.Len
set_option maxRecDepth 100000 in
set_option maxHeartbeats 1000000 in
theorem Len_in {S : Nat → Prop} {w : World} {b n codes : Nat} {group next clock : Int} {len : Nat} {q : Parts} (h : Comp S w b n codes group next clock len q) :
    Calls Tryz.prog 34 #[.pointer (some ⟨b, 0, none⟩)] w fun e w' => e = .returned (.int .i64 len) ∧ w' = w := by
  have x7 : w.cell? ⟨b, 7, none⟩ = some (.pointer (some ⟨q.ip, 0, none⟩)) := h.own.cell 7
  have HT := Lib.hid (there_in b true w (h.own.cell 3))
  have HI := Lib.hid (IdxLen q.ip q.ig q.m codes len 0 q.f w h.ids)
  clear h
  go_enter Tryz.func34, Tryz.ntmps34
  go_wp2_with fail
  refine HT.out.mono ?_
  rintro e w1 ⟨rfl, hw⟩
  rw [hw]
  clear hw w1
  go_wp2_with fail
  refine HI.out.mono ?_
  rintro e w1 ⟨rfl, hw⟩
  rw [hw]
  clear hw w1
  go_wp2_with fail
  go_ret
  exact ⟨rfl, rfl⟩
/-- behind a look into the index -/
theorem BookAt.looked {S : Nat → Prop} {w w' : World} {b n codes : Nat} {group next clock : Int} {L : List Bkg} {q : Parts} (h : BookAt S w b n codes group next clock L q) (hi : IdxOk w' q.ip q.ig q.m codes L.length 0 q.f) (ht : Tch (· = q.ip) w w') : BookAt S w' b n codes group next clock L q :=
  h.turn (h.comp.ids_step (ht.mono fun _ _ e => .inl e) hi)
def GetOut (S : Nat → Prop) (w : World) (b n codes : Nat) (group next clock : Int) (L : List Bkg) (q : Parts) (x : Bkg) (e : Ending) (w' : World) : Prop :=
  e = .returned (.tuple #[.agg #[.int .u32 x.id, .int .i64 x.seat, .int .i64 x.til], .int .i64 0]) ∧ BookAt S w' b n codes group next clock L q ∧ Tch (· = q.ip) w w'
-- book.Get, a booking that is there
set_option maxRecDepth 100000 in
set_option maxHeartbeats 2000000 in
theorem Get_in {S : Nat → Prop} {w : World} {b n codes : Nat} {group next clock : Int} {L : List Bkg} {q : Parts} (h : BookAt S w b n codes group next clock L q) (x : Bkg) (hx : x ∈ L) (hid : 0 ≤ x.id ∧ x.id < 4294967296) :
    Calls Tryz.prog 37 #[.pointer (some ⟨b, 0, none⟩), .int .u32 x.id] w (GetOut S w b n codes group next clock L q x) := by
  obtain ⟨hsn, hsb⟩ := h.lies x hx
  obtain ⟨j, hj, j1, j2, j3⟩ := h.listed x hx
  have hn := h.small.2.2.2
  obtain ⟨id, seat, til⟩ := x
  simp only at hid hsn hsb j2 j3
  have hb1 := ext_alloc (Below.refl w.heap.size w) (.cells #[.int .u32 0, .int .i64 0, .int .i64 0] 78)
  have hA1 := Arr.fresh w 78 #[.int .u32 0, .int .i64 0, .int .i64 0]
  obtain ⟨w1, hw1⟩ : ∃ w1, w.alloc (.cells #[.int .u32 0, .int .i64 0, .int .i64 0] 78) = w1 := ⟨_, rfl⟩
  obtain ⟨r, hr⟩ : ∃ r, w.heap.size = r := ⟨_, rfl⟩
  have HW1 := Lib.hid hw1; have HRS := Lib.hid hr
  rw [hw1] at hb1 hA1
  rw [hr] at hA1
  have h1 := h.below hb1
  have HIG := Lib.hid (IdxGet q.ip q.ig q.m codes L.length 0 id seat q.f w1 h1.comp.ids hid ⟨j, hj, j1, j2, j3⟩)
  have HT := Lib.hid (there_in b true w1 (h1.comp.own.cell 3))
  have HSB := Lib.hid hsb; have HH1 := Lib.hid h1; have HB1 := Lib.hid hb1; have HA1 := Lib.hid hA1; have HH := Lib.hid h; have HHX := Lib.hid hx
  have x7 : w1.cell? ⟨b, 7, none⟩ = some (.pointer (some ⟨q.ip, 0, none⟩)) := h1.comp.own.cell 7
  have hs1 : (seat : Int) < (n : Int) := by omega
  have hs0 : (0 : Int) ≤ (seat : Int) := by omega
  clear h h1 hb1 hA1 j1 j2 j3 hsb hw1 hr hx
  go_enter Tryz.func37, Tryz.ntmps37
  go_wp2_with fail
  rw [HW1.out, HRS.out]
  refine HT.out.mono ?_
  rintro e w2 ⟨rfl, hw2⟩
  rw [hw2]
  clear hw2 w2
  go_wp2_with fail
  refine HIG.out.mono ?_
  rintro e w2 ⟨rfl, hI2, hT2⟩
  have h2 := HH1.out.looked hI2 hT2
  have hne : ¬ r = q.ip := fun e => by
    have := HH.out.comp.lt q.ip HH.out.comp.foot.2.2.2.1
    have h9 := HRS.out
    omega
  have HA2 := Lib.hid (hT2.arr HA1.out hne)
  have HH2 := Lib.hid h2
  have HT2 := Lib.hid (show Tch (· = q.ip) w w2 from ((Tch.refl _ w).below HB1.out).trans hT2)
  have y8 : w2.cell? ⟨b, 8, none⟩ = some (.slice (some ⟨q.sg, 0, none⟩) n q.sc) := h2.comp.own.cell 8
  clear hI2 hT2 h2
  have hrg := HH2.out.comp.seats
  have HRG := Lib.hid hrg
  have hq : bkgL (q.sb seat) = [.int .u32 id, .int .i64 (seat : Int), .int .i64 til] := by rw [HSB.out]; rfl
  have hrange := HRG.out.range (fun _ => rfl) (show seat < n from hsn)
  rw [hq] at hrange
  have HQ := Lib.hid hrange
  clear hrg hq hrange
  go_wp2_with (first | (refine wpList_load_mid rfl 78 _ rfl q.sg (seat * 3) rfl _ _ HQ.out Tryz.underlying78 rfl rfl ?_) | (refine wpList_store_blk rfl 78 _ _ rfl r 78 _ #[.int .u32 id, .int .i64 (seat : Int), .int .i64 til] HA2.out rfl rfl rfl bkg_size (by simp [Value.oneCell']) ?_; intro w3 hA3 hg3 hs3; have HA3 := Lib.hid hA3; have HG3 := Lib.hid hg3; clear hA3 hg3 hs3))
  refine bodyPost_ret (results_cell_tmp Tryz.results37 _ (by rfl) (run_load_blk 78 HA3.out _ Tryz.underlying78 rfl bkg_size)) rfl ⟨rfl, ?_, ?_⟩
  · exact HH2.out.turn (HH2.out.comp.same HG3.out.size (fun k hS hk => HG3.out.block k hk (fun e => by
      injection e with e
      have h9 := HRS.out
      have := HH.out.comp.lt k hS
      omega)))
  · exact HT2.out.grown HG3.out (fun k hk => by injection hk with hk; exact .inr (by have h9 := HRS.out; omega))

end Go.Proofs.YtpoijhjjbmaedaaGreatDoor.Bk
