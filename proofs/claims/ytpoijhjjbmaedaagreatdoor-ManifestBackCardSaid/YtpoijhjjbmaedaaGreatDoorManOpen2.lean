/- Lists of lines, of bookings, that came in as arguments, opened. -/
import Derived.Test.YtpoijhjjbmaedaaGreatDoorManOpen
import Derived.Test.YtpoijhjjbmaedaaGreatDoorMan17
set_option linter.unusedVariables false
set_option linter.unusedSimpArgs false
namespace Go.Proofs.YtpoijhjjbmaedaaGreatDoor.Man
open Go.ChangeShapes Go.WideShapes Go.ChangeAt Go.RowKit Go.Joins Go.Deep

theorem mem_weights {H : Type} {P : Program} {t e : TypeId} (hu : P.underlying t = some (.slice e)) (xs ys : List (DataW H)) : xs.length * P.bytesOf e + ys.length * P.bytesOf e ∈ (DataW.slice xs ys).weights P t := by
  simp only [DataW.weights, hu, List.length_map]
  simp [Nat.add_mul]
instance : Inhabited Ln := ⟨d0⟩
instance : Inhabited Bk.Raw := ⟨⟨0, 0, 0⟩⟩
/-- how a line reads -/
def lineD {H : Type} (x : Ln) : DataW H := .agg [.lit (.string x.seat.data.toList), .lit (.string x.code.data.toList), .lit (.bool x.held)]
theorem bulk_data (H : Type) : ∀ l : List Ln, bulk l ≤ 3 * Rows.uptoBulkAll (l.map (lineD (H := H)))
  | [] => by simp [bulk, Rows.uptoBulkAll]
  | x :: l => by
    have h := bulk_data H l
    have e : bulk (x :: l) = x.seat.size + x.code.size + 12 + bulk l := by simp [bulk]
    have e1 : x.seat.data.toList.length = x.seat.size := (Lib.size_eq _).symm
    have e2 : x.code.data.toList.length = x.code.size := (Lib.size_eq _).symm
    rw [e, List.map_cons]
    simp only [Rows.uptoBulkAll, lineD, Rows.uptoBulk] at h ⊢
    omega

theorem lines_three : Tryz.prog.cellsOf 74 = 3 := by kernel_rfl
theorem lines_bytes : Tryz.prog.bytesOf 74 = 40 := by kernel_rfl
set_option maxRecDepth 100000 in
theorem lines_open {H : Type} {enc : TypeId × Value → H} {W : World} {base b0 : Nat} {r : Reach} {v : Value} {d : DataW H} {p : List MemPlace}
    (hv : Value.okWide Tryz.prog W r b0 39 v) (h : DataW.Trod enc Tryz.prog W base (fun _ => true) true 39 v d p)
    (hs : ∀ n ∈ d.weights Tryz.prog 39, n ≤ reachBytes) :
    ∃ (l : List Ln) (A : Option Addr) (c : Nat), v = .slice A l.length c ∧ Lines W A l ∧ (A = none → l = [] ∧ c = 0) ∧ l.length * 40 ≤ 140737488351232 ∧ bulk l ≤ 3 * Rows.uptoBulk d := by
  obtain ⟨a0, len0, cap0, rfl⟩ := okWide_slice Tryz.underlying39 hv
  obtain ⟨fuel, hf⟩ := h
  rcases open_slice Tryz.underlying39 (show DataW.trod enc Tryz.prog W base (fun _ => true) true fuel 39 [.slice a0 len0 cap0] = some (d, p) from by simpa [Value.cells] using hf) with ⟨e1, e2⟩ | ⟨ad, len, cap, m, n, D, Pl, e1, hb, hl, hm, hmm, e2, hx⟩
  · simp at e1
    obtain ⟨rfl, rfl, rfl⟩ := e1
    exact ⟨[], none, 0, rfl, fun h => absurd rfl h, fun _ => ⟨rfl, rfl⟩, by simp, by simp [bulk]⟩
  · simp at e1
    obtain ⟨rfl, rfl, rfl⟩ := e1
    simp only [if_true] at hmm
    subst hmm
    injection e2 with e2 _
    subst e2
    rw [lines_three] at hx
    have each : ∀ i, i < len0 → ∃ x : Ln, (∀ j u, (lineL x)[j]? = some u → W.cell? (ad.add (i * 3 + j)) = some u) ∧ D i = lineD x := by
      intro i hi
      obtain ⟨cs', h1, h2⟩ := hx i (by omega)
      obtain ⟨_, hlen, hcell⟩ := World.cells?_some h1
      obtain ⟨xs, k, hk, hxy, _, hxl, hfs⟩ := DataW.trod_struct Tryz.underlying74 h2
      match xs, hxl, cs', hlen with
      | [y0, y1, y2], _, [v0, v1, v2], _ =>
        have g0 := hfs 0 _ rfl
        have g1 := hfs 1 _ rfl
        have g2 := hfs 2 _ rfl
        obtain ⟨s0, r0, q0, _⟩ := DataW.trod_string Tryz.underlying9 (show DataW.trod enc Tryz.prog W base (fun _ => true) true k 9 [v0] = some y0 from g0)
        obtain ⟨s1, r1, q1, _⟩ := DataW.trod_string Tryz.underlying9 (show DataW.trod enc Tryz.prog W base (fun _ => true) true k 9 [v1] = some y1 from g1)
        obtain ⟨s2, r2, q2⟩ := DataW.trod_bool Tryz.underlying4 (show DataW.trod enc Tryz.prog W base (fun _ => true) true k 4 [v2] = some y2 from g2)
        simp at r0 r1 r2
        subst r0 r1 r2
        subst q0 q1 q2
        have c0 := hcell 0 (by omega)
        have c1 := hcell 1 (by omega)
        have c2 := hcell 2 (by omega)
        rw [add_add] at c0 c1 c2
        refine ⟨⟨s0, s1, s2⟩, fun j u hu => ?_, congrArg Prod.fst hxy⟩
        match j, hu with
        | 0, hu => injection hu with hu; subst hu; exact c0
        | 1, hu => injection hu with hu; subst hu; exact c1
        | 2, hu => injection hu with hu; subst hu; exact c2
        | j + 3, hu => simp [lineL] at hu
    obtain ⟨F, hF⟩ := choose_lt each
    have hgd : ∀ k, k < len0 → ((List.range len0).map F).getD k ⟨⟨#[]⟩, ⟨#[]⟩, false⟩ = F k := fun k hk => by
      rw [List.getD_eq_getElem?_getD, List.getElem?_map, List.getElem?_range hk]; rfl
    have hw := hs _ (mem_weights Tryz.underlying39 _ _)
    rw [lines_bytes] at hw
    simp only [List.length_map, List.length_range] at hw
    have hr : reachBytes = 140737488351232 := rfl
    refine ⟨(List.range len0).map F, some ad, m, by simp, fun hne => ?_, (fun h => by cases h), by simp only [List.length_map, List.length_range]; omega, ?_⟩
    · obtain ⟨b, off, spot⟩ := ad
      have hlen : 0 < len0 := by
        rcases Nat.eq_zero_or_pos len0 with h | h
        · subst h; simp at hne
        · exact h
      have hc0 := (hF 0 hlen).1 0 _ rfl
      have hspot : spot = none := by simpa [Addr.add] using World.cell?_spot hc0
      subst hspot
      refine ⟨b, off, rfl, block_lt_of_cell (a := ⟨b, off, none⟩) (by simpa [Addr.add] using hc0), fun k hk j u hu => ?_⟩
      have hk' : k < len0 := by simpa using hk
      rw [hgd k hk'] at hu
      have := (hF k hk').1 j u hu
      rw [← this]
      congr 1
      rw [add_plain, Nat.add_assoc]
    · have := bulk_data H ((List.range len0).map F)
      rw [List.map_map, show (List.range len0).map (lineD (H := H) ∘ F) = (List.range len0).map D from List.map_congr_left fun i hi => ((hF i (List.mem_range.1 hi)).2).symm] at this
      simp only [Rows.uptoBulk]
      omega

theorem raws_three : Tryz.prog.cellsOf 78 = 3 := by kernel_rfl
theorem raws_bytes : Tryz.prog.bytesOf 78 = 24 := by kernel_rfl
set_option maxRecDepth 100000 in
theorem raws_open {H : Type} {enc : TypeId × Value → H} {W : World} {base b0 : Nat} {r : Reach} {v : Value} {d : DataW H} {p : List MemPlace}
    (hv : Value.okWide Tryz.prog W r b0 27 v) (h : DataW.Trod enc Tryz.prog W base (fun _ => true) true 27 v d p)
    (hs : ∀ n ∈ d.weights Tryz.prog 27, n ≤ reachBytes) :
    ∃ (l : List Bk.Raw) (A : Option Addr) (c : Nat), v = .slice A l.length c ∧ Bk.Raws W A l ∧ (A = none → l = [] ∧ c = 0) ∧ l.length * 24 ≤ 140737488351232 ∧ ∀ x ∈ l, 0 ≤ x.id ∧ x.id < 4294967296 := by
  obtain ⟨a0, len0, cap0, rfl⟩ := okWide_slice Tryz.underlying27 hv
  obtain ⟨fuel, hf⟩ := h
  rcases open_slice Tryz.underlying27 (show DataW.trod enc Tryz.prog W base (fun _ => true) true fuel 27 [.slice a0 len0 cap0] = some (d, p) from by simpa [Value.cells] using hf) with ⟨e1, e2⟩ | ⟨ad, len, cap, m, n, D, Pl, e1, hb, hl, hm, hmm, e2, hx⟩
  · simp at e1
    obtain ⟨rfl, rfl, rfl⟩ := e1
    exact ⟨[], none, 0, rfl, fun h => absurd rfl h, fun _ => ⟨rfl, rfl⟩, by simp, by simp⟩
  · simp at e1
    obtain ⟨rfl, rfl, rfl⟩ := e1
    simp only [if_true] at hmm
    subst hmm
    injection e2 with e2 _
    subst e2
    rw [raws_three] at hx
    have each : ∀ i, i < len0 → ∃ x : Bk.Raw, (∀ j u, (Bk.rawL x)[j]? = some u → W.cell? (ad.add (i * 3 + j)) = some u) ∧ 0 ≤ x.id ∧ x.id < 4294967296 := by
      intro i hi
      obtain ⟨cs', h1, h2⟩ := hx i (by omega)
      obtain ⟨_, hlen, hcell⟩ := World.cells?_some h1
      obtain ⟨xs, k, hk, hxy, _, hxl, hfs⟩ := DataW.trod_struct Tryz.underlying78 h2
      match xs, hxl, cs', hlen with
      | [y0, y1, y2], _, [v0, v1, v2], _ =>
        have g0 := hfs 0 _ rfl
        have g1 := hfs 1 _ rfl
        have g2 := hfs 2 _ rfl
        obtain ⟨s0, r0, _, hwf⟩ := DataW.trod_int Tryz.underlying33 (show DataW.trod enc Tryz.prog W base (fun _ => true) true k 33 [v0] = some y0 from g0)
        obtain ⟨s1, r1, _, _⟩ := DataW.trod_int Tryz.underlying3 (show DataW.trod enc Tryz.prog W base (fun _ => true) true k 3 [v1] = some y1 from g1)
        obtain ⟨s2, r2, _, _⟩ := DataW.trod_int Tryz.underlying2 (show DataW.trod enc Tryz.prog W base (fun _ => true) true k 2 [v2] = some y2 from g2)
        simp at r0 r1 r2
        subst r0 r1 r2
        have hwf : 0 ≤ s0 ∧ s0 < 4294967296 := by
          simp only [Lit.wf, Bool.and_eq_true, decide_eq_true_eq] at hwf
          have e1 : IntKind.u32.min = 0 := by decide
          have e2 : IntKind.u32.max = 4294967295 := by decide
          rw [e1, e2] at hwf
          omega
        have c0 := hcell 0 (by omega)
        have c1 := hcell 1 (by omega)
        have c2 := hcell 2 (by omega)
        rw [add_add] at c0 c1 c2
        refine ⟨⟨s0, s1, s2⟩, fun j u hu => ?_, hwf⟩
        match j, hu with
        | 0, hu => injection hu with hu; subst hu; exact c0
        | 1, hu => injection hu with hu; subst hu; exact c1
        | 2, hu => injection hu with hu; subst hu; exact c2
        | j + 3, hu => simp [Bk.rawL] at hu
    obtain ⟨F, hF⟩ := choose_lt each
    have hgd : ∀ k, k < len0 → ((List.range len0).map F).getD k ⟨0, 0, 0⟩ = F k := fun k hk => by
      rw [List.getD_eq_getElem?_getD, List.getElem?_map, List.getElem?_range hk]; rfl
    have hw := hs _ (mem_weights Tryz.underlying27 _ _)
    rw [raws_bytes] at hw
    simp only [List.length_map, List.length_range] at hw
    have hr : reachBytes = 140737488351232 := rfl
    refine ⟨(List.range len0).map F, some ad, m, by simp, fun hne => ?_, (fun h => by cases h), by simp only [List.length_map, List.length_range]; omega, ?_⟩
    · obtain ⟨b, off, spot⟩ := ad
      have hlen : 0 < len0 := by
        rcases Nat.eq_zero_or_pos len0 with h | h
        · subst h; simp at hne
        · exact h
      have hc0 := (hF 0 hlen).1 0 _ rfl
      have hspot : spot = none := by simpa [Addr.add] using World.cell?_spot hc0
      subst hspot
      refine ⟨b, off, rfl, block_lt_of_cell (a := ⟨b, off, none⟩) (by simpa [Addr.add] using hc0), fun k hk j u hu => ?_⟩
      have hk' : k < len0 := by simpa using hk
      rw [hgd k hk'] at hu
      have := (hF k hk').1 j u hu
      rw [← this]
      congr 1
      rw [add_plain, Nat.add_assoc]
    · intro x hx2
      obtain ⟨k, hk, rfl⟩ := List.mem_map.1 hx2
      exact (hF k (by simpa using hk)).2

set_option maxRecDepth 100000 in
theorem shape_open {H : Type} {enc : TypeId × Value → H} {W : World} {base b0 : Nat} {r : Reach} {v : Value} {d : DataW H} {p : List MemPlace}
    (hv : Value.okWide Tryz.prog W r b0 26 v) (h : DataW.Trod enc Tryz.prog W base (fun _ => true) true 26 v d p) :
    ∃ a b c : Int, v = .agg #[.int .i64 a, .int .i64 b, .int .i64 c] := by
  obtain ⟨v0, v1, v2, y0, y1, y2, n, rfl, rfl, rfl, h0, h1, h2⟩ := open_agg3 Tryz.underlying26 (by kernel_rfl) (by kernel_rfl) hv h
  obtain ⟨r0, e0, _, _⟩ := DataW.trod_int Tryz.underlying3 h0
  obtain ⟨r1, e1, _, _⟩ := DataW.trod_int Tryz.underlying3 h1
  obtain ⟨r2, e2, _, _⟩ := DataW.trod_int Tryz.underlying3 h2
  simp at e0 e1 e2
  subst e0 e1 e2
  exact ⟨r0, r1, r2, rfl⟩

end Go.Proofs.YtpoijhjjbmaedaaGreatDoor.Man
namespace Go.Proofs.YtpoijhjjbmaedaaGreatDoor.Cab
open Go.ChangeShapes Go.WideShapes Go.ChangeAt Go.RowKit Go.Joins
set_option maxRecDepth 100000 in
theorem cabin_open {H : Type} {enc : TypeId × Value → H} {W : World} {base b0 : Nat} {r : Reach} {v : Value} {d : DataW H} {p : List MemPlace}
    (hv : Value.okWide Tryz.prog W r b0 24 v) (h : DataW.Trod enc Tryz.prog W base (fun _ => true) true 24 v d p)
    (hs : ∀ n ∈ d.weights Tryz.prog 24, n ≤ reachBytes) :
    ∃ (r wd : Int) (zs : List Int) (A : Option Addr) (c : Nat), v = .agg #[.int .i64 r, .int .i64 wd, .slice A zs.length c] ∧ Ints W A zs ∧ (A = none → zs = [] ∧ c = 0) ∧ zs.length ≤ 17592186043904 := by
  obtain ⟨v0, v1, v2, y0, y1, y2, n, rfl, rfl, rfl, h0, h1, h2⟩ := open_agg3 Tryz.underlying24 (by kernel_rfl) (by kernel_rfl) hv h
  obtain ⟨r0, e0, _, _⟩ := DataW.trod_int Tryz.underlying3 h0
  obtain ⟨r1, e1, _, _⟩ := DataW.trod_int Tryz.underlying3 h1
  simp at e0 e1
  subst e0 e1
  rcases open_ints Tryz.underlying22 Tryz.underlying3 (by kernel_rfl) h2 with ⟨e2, hx⟩ | ⟨a, len, cap, zs, e2, hb, hl, hm, hzl, hx, hcell, hwf⟩
  · simp at e2
    subst e2
    exact ⟨r0, r1, [], none, 0, rfl, fun h => absurd rfl h, fun _ => ⟨rfl, rfl⟩, by simp⟩
  · simp at e2
    subst e2
    have hzl' : zs.length = cap := by rw [hzl]; rfl
    have htl : (zs.take len).length = len := by rw [List.length_take]; omega
    have hw := hs ((zs.take len).length * 8 + (zs.drop len).length * 8) (by
      have hu : Tryz.prog.underlying 24 = _ := Tryz.underlying24
      simp only [DataW.weights, hu]
      refine DataW.weights_mem_each (j := 2) (t := 22) rfl rfl _ ?_
      rw [hx]
      have hb8 : Tryz.prog.bytesOf 3 = 8 := by kernel_rfl
      simp only [DataW.weights, Tryz.underlying22, hb8, lits, List.length_map, ← Nat.add_mul]
      exact List.mem_cons_self)
    have hr : reachBytes = 140737488351232 := rfl
    refine ⟨r0, r1, zs.take len, some a, cap, by rw [htl], fun hne => ?_, (fun h => by cases h), by omega⟩
    obtain ⟨b, off, spot⟩ := a
    have hlen : 0 < len := by rcases Nat.eq_zero_or_pos len with h | h; · subst h; simp at hne
                              · exact h
    have hc0 := hcell 0 (by omega)
    have hspot : spot = none := by simpa [Addr.add] using World.cell?_spot hc0
    subst hspot
    refine ⟨b, off, rfl, block_lt_of_cell (a := ⟨b, off, none⟩) (by simpa [Addr.add] using hc0), fun j hj => ?_⟩
    have hcj := hcell j (by omega)
    have e : (zs.take len).getD j 0 = zs.getD j 0 := by
      rw [List.getD_eq_getElem?_getD, List.getD_eq_getElem?_getD, List.getElem?_take, if_pos (by omega)]
    rw [e, ← hcj]
    congr 1
    unfold Addr.add; split
    · subst_vars; rfl
    · rfl

end Go.Proofs.YtpoijhjjbmaedaaGreatDoor.Cab
namespace Go.Proofs.YtpoijhjjbmaedaaGreatDoor.Man

end Go.Proofs.YtpoijhjjbmaedaaGreatDoor.Man
