/- The law of any cabin, any book. -/
import Derived.Test.YtpoijhjjbmaedaaGreatDoorMan23
import Derived.Test.YtpoijhjjbmaedaaGreatDoorCabD
set_option linter.unusedVariables false
set_option linter.unusedSimpArgs false
namespace Go.Proofs.YtpoijhjjbmaedaaGreatDoor.Man
open Go.RowKit
open Go.Proofs.YtpoijhjjbmaedaaGreatDoor.Bit (hasB)
open Go.Proofs.YtpoijhjjbmaedaaGreatDoor.Bk (Bkg Raw rawL Raws bookOf ofR mayR toB BookAt Parts Comp)

theorem ofR_some {n : Nat} {next clock : Int} : ∀ {l : List Raw} {L0 : List Bkg} {last : Int} {L : List Bkg}, ofR n next clock L0 last l = some L → L = L0 ++ l.map toB ∧ ∀ x ∈ l, 0 ≤ x.seat ∧ x.seat < n
  | [], L0, _, L, h => by
    simp only [ofR, Option.some.injEq] at h
    exact ⟨by simp [h], by simp⟩
  | x :: l, L0, last, L, h => by
    rw [ofR] at h
    by_cases hm : mayR n next clock L0 last x = true
    · rw [if_pos hm] at h
      obtain ⟨h1, h2⟩ := ofR_some h
      obtain ⟨_, _, m3, m4, _, _⟩ := Bk.mayR_yes hm
      refine ⟨by rw [h1]; simp, fun y hy => ?_⟩
      rcases List.mem_cons.1 hy with rfl | hy
      · exact ⟨m3, m4⟩
      · exact h2 y hy
    · rw [if_neg hm] at h; cases h
theorem bookOf_some {n codes : Nat} {next clock : Int} {l : List Raw} {L : List Bkg} (h : bookOf n codes next clock l = some L) : L = l.map toB ∧ ∀ x ∈ l, 0 ≤ x.seat ∧ x.seat < n := by
  unfold bookOf at h
  split at h
  · cases h
  · simpa using ofR_some h
theorem book_bits {S : Nat → Prop} {w : World} {b n codes : Nat} {group next clock : Int} {l : List Raw} {L : List Bkg} {q : Parts} (h : BookAt S w b n codes group next clock L q) (hL : bookOf n codes next clock l = some L) :
    (∀ k, k < n → (hasB q.ws k = true ↔ ∃ i, i < l.length ∧ (l.getD i r0).seat = (k : Int))) ∧ (∀ i k : Nat, i < l.length → (l.getD i r0).seat = (k : Int) → q.sb k = toB (l.getD i r0)) := by
  obtain ⟨rfl, hs⟩ := bookOf_some hL
  have hget : ∀ i, i < l.length → l.getD i r0 ∈ l := fun i hi => by
    rw [List.getD_eq_getElem?_getD, List.getElem?_eq_getElem hi]; exact List.getElem_mem hi
  refine ⟨fun k hk => ?_, fun i k hi e => ?_⟩
  · rw [h.bits k hk]
    constructor
    · rintro ⟨x, hx, e⟩
      obtain ⟨y, hy, rfl⟩ := List.mem_map.1 hx
      obtain ⟨i, hi⟩ := List.mem_iff_getElem?.1 hy
      have hil := (List.getElem?_eq_some_iff.1 hi).1
      refine ⟨i, hil, ?_⟩
      have := hs y hy
      rw [List.getD_eq_getElem?_getD, hi]
      simp only [Option.getD_some, toB] at e ⊢
      omega
    · rintro ⟨i, hi, e⟩
      exact ⟨toB (l.getD i r0), List.mem_map.2 ⟨_, hget i hi, rfl⟩, by simp only [toB]; omega⟩
  · have := (h.lies (toB (l.getD i r0)) (List.mem_map.2 ⟨_, hget i hi, rfl⟩)).2
    rw [show (toB (l.getD i r0)).seat = k by simp only [toB]; omega] at this
    exact this
/-- what the program's and the document's books are, made of the same bookings -/
inductive Made (a b c next clock : Int) (l : List Raw) : Int → Prop
  | shape : Geo.okS a b c = false → Made a b c next clock l 90
  | none (n codes : Nat) : Geo.okS a b c = true → a = n → b = codes → bookOf n codes next clock l = none → Made a b c next clock l 180
  | some (n codes : Nat) (L : List Bkg) : Geo.okS a b c = true → a = n → b = codes → bookOf n codes next clock l = some L → Made a b c next clock l 0
theorem made_all (a b c next clock : Int) (l : List Raw) : ∃ er, Made a b c next clock l er := by
  cases h : Geo.okS a b c with
  | false => exact ⟨_, .shape h⟩
  | true =>
    have h9 := Geo.okS_yes h
    obtain ⟨n, rfl⟩ : ∃ n : Nat, a = (n : Int) := ⟨a.toNat, by omega⟩
    obtain ⟨codes, rfl⟩ : ∃ n : Nat, b = (n : Int) := ⟨b.toNat, by omega⟩
    cases hb : bookOf n codes next clock l with
    | none => exact ⟨_, .none n codes h rfl rfl hb⟩
    | some L => exact ⟨_, .some n codes L h rfl rfl hb⟩
/-- the program's book -/
def PBook (a b c next clock : Int) (l : List Raw) (er : Int) (p : Option Addr) (w : World) : Prop :=
  (er ≠ 0 ∧ p = none) ∨ ∃ (n codes bk : Nat) (L : List Bkg) (S : Nat → Prop) (q : Parts), er = 0 ∧ Geo.okS a b c = true ∧ a = n ∧ b = codes ∧ bookOf n codes next clock l = some L ∧ p = some ⟨bk, 0, Option.none⟩ ∧ BookAt S w bk n codes c next clock L q
theorem PBook.keep {a b c next clock : Int} {l : List Raw} {er : Int} {p : Option Addr} {w w' : World} (h : PBook a b c next clock l er p w) (hb : Below w.heap.size w w') : PBook a b c next clock l er p w' := by
  rcases h with h | ⟨n, codes, bk, L, S, q, h1, h2, h3, h4, h5, h6, h7⟩
  · exact .inl h
  · exact .inr ⟨n, codes, bk, L, S, q, h1, h2, h3, h4, h5, h6, h7.below hb⟩
theorem Of_made (a b c next clock : Int) (l : List Raw) (er : Int) (hm : Made a b c next clock l er) (A : Option Addr) (cap : Nat) (w : World) (hr : Raws w A l) (hl : l.length ≤ 17592186043904) (hnx : 0 ≤ next ∧ next < 4294967296) (hids : ∀ x ∈ l, 0 ≤ x.id ∧ x.id < 4294967296) :
    Calls Tryz.prog 11 #[.agg #[.int .i64 a, .int .i64 b, .int .i64 c], .int .u32 next, .int .i64 clock, .slice A l.length cap] w fun e w' => (∃ p, e = .returned (.tuple #[.pointer p, .int .i64 er]) ∧ PBook a b c next clock l er p w') ∧ Below w.heap.size w w' := by
  cases hm with
  | shape h =>
    refine (Bk.Of_shape a b c next clock A l.length cap w h).mono ?_
    rintro e w' ⟨rfl, hb⟩
    exact ⟨⟨_, rfl, .inl ⟨by decide, rfl⟩⟩, hb⟩
  | none n codes h ha hb hbo =>
    subst ha hb
    refine (Bk.Of_in n codes c next clock l A cap w h hr hl hnx hids).mono ?_
    rintro e w' ⟨hb, hx⟩
    rw [hbo] at hx
    simp only at hx
    subst hx
    exact ⟨⟨_, rfl, .inl ⟨by decide, rfl⟩⟩, hb⟩
  | some n codes L h ha hb hbo =>
    subst ha hb
    refine (Bk.Of_in n codes c next clock l A cap w h hr hl hnx hids).mono ?_
    rintro e w' ⟨hb, hx⟩
    rw [hbo] at hx
    simp only at hx
    obtain ⟨bk, S, q, rfl, hq, _⟩ := hx
    exact ⟨⟨_, rfl, .inr ⟨n, codes, bk, L, S, q, rfl, h, rfl, rfl, hbo, rfl, hq⟩⟩, hb⟩
/-- the reference's -/
def RBook (a b c next clock : Int) (l : List Raw) (er : Int) (bk : Nat) (w : World) : Prop :=
  (er ≠ 0 ∧ Arr w bk 52 rb0) ∨ ∃ (n codes : Nat) (VA : Option Addr) (vc : Nat), er = 0 ∧ Geo.okS a b c = true ∧ a = n ∧ b = codes ∧ RBk w bk n codes c next clock l VA vc
theorem RBook.keep {a b c next clock : Int} {l : List Raw} {er : Int} {bk : Nat} {w w' : World} (h : RBook a b c next clock l er bk w) (hb : Below w.heap.size w w') : RBook a b c next clock l er bk w' := by
  rcases h with ⟨h1, h2⟩ | ⟨n, codes, VA, vc, h1, h2, h3, h4, h5⟩
  · exact .inl ⟨h1, h2.keep hb⟩
  · exact .inr ⟨n, codes, VA, vc, h1, h2, h3, h4, h5.keep hb⟩
theorem rOf_made (a b c next clock : Int) (l : List Raw) (er : Int) (hm : Made a b c next clock l er) (A : Option Addr) (cap : Nat) (w : World) (hr : Raws w A l) (hA : A = none → l = [] ∧ cap = 0) (hl : l.length * 24 ≤ 140737488351232) (hnx : 0 ≤ next ∧ next < 4294967296) (hids : ∀ x ∈ l, 0 ≤ x.id ∧ x.id < 4294967296) :
    Calls Tryz.prog 13 #[.agg #[.int .i64 a, .int .i64 b, .int .i64 c], .int .u32 next, .int .i64 clock, .slice A l.length cap] w fun e w' => (∃ bk, e = .returned (.tuple #[.pointer (some ⟨bk, 0, none⟩), .int .i64 er]) ∧ RBook a b c next clock l er bk w') ∧ Below w.heap.size w w' := by
  cases hm with
  | shape h =>
    refine (rOf_no a b c next clock A l.length cap w h).mono ?_
    rintro e w' ⟨⟨nb, rfl, h2⟩, hb⟩
    exact ⟨⟨_, rfl, .inl ⟨by decide, h2⟩⟩, hb⟩
  | none n codes h ha hb hbo =>
    subst ha hb
    refine (rOf_in n codes c next clock l A cap w h hr hA hl hnx hids).mono ?_
    rintro e w' ⟨hb, hx⟩
    rw [hbo] at hx
    obtain ⟨nb, rfl, h2⟩ := hx
    exact ⟨⟨_, rfl, .inl ⟨by decide, h2⟩⟩, hb⟩
  | some n codes L h ha hb hbo =>
    subst ha hb
    refine (rOf_in n codes c next clock l A cap w h hr hA hl hnx hids).mono ?_
    rintro e w' ⟨hb, hx⟩
    rw [hbo] at hx
    obtain ⟨nb, VA, vc, rfl, h2, h3⟩ := hx
    exact ⟨⟨_, rfl, .inr ⟨n, codes, VA, vc, rfl, h, rfl, rfl, ⟨h2, h3⟩⟩⟩, hb⟩
/-- lines that were told, and how it ended -/
def Told (ls : List Ln) (g : Int) (w : World) (e : Ending) (w' : World) : Prop := (∃ (VA : Option Addr) (vc : Nat), e = .returned (.tuple #[.slice VA ls.length vc, .int .i64 g]) ∧ Lines w' VA ls) ∧ Below w.heap.size w w'
theorem Told.none {g : Int} {w w' : World} {e : Ending} (he : e = .returned (.tuple #[.slice none 0 0, .int .i64 g])) (hb : Below w.heap.size w w') : Told [] g w e w' := ⟨⟨Option.none, 0, he, fun h => absurd rfl h⟩, hb⟩
theorem Told.of {ls : List Ln} {w w' : World} {e : Ending} (h : OfOut ls w e w') : Told ls 0 w e w' := by
  obtain ⟨v, rfl, hr, hb⟩ := h
  obtain ⟨A, cap, rfl⟩ := RowIn.any hr
  exact ⟨⟨A, cap, rfl, RowIn.lines hr⟩, hb⟩
theorem told_all (a b c next clock : Int) (l : List Raw) (er : Int) (p : Option Addr) (bk : Nat) (w : World) (hp : PBook a b c next clock l er p w) (hq : RBook a b c next clock l er bk w) (hl : l.length ≤ 1100) (hids : ∀ x ∈ l, 0 ≤ x.id ∧ x.id < 4294967296) (r wd : Int) (zs : List Int) (hlen : zs.length ≤ 20000000000000) (ht : Cod.Tab w) :
    ∃ (ls : List Ln) (g : Int), ls.length ≤ 1024 ∧ (∀ W A c0, Below w.heap.size w W → Cab.Ints W A zs → Calls Tryz.prog 15 #[.agg #[.int .i64 r, .int .i64 wd, .slice A zs.length c0], .pointer p] W (Told ls g W)) ∧
      ∀ W A c0, Below w.heap.size w W → Cab.Ints W A zs → Calls Tryz.prog 16 #[.agg #[.int .i64 r, .int .i64 wd, .slice A zs.length c0], .pointer (some ⟨bk, 0, Option.none⟩)] W (Told ls g W) := by
  cases hok : Cab.okC r wd zs with
  | false => exact ⟨[], 2, by simp, fun W A c0 hW hI => (Of_bad r wd zs A c0 p W hI hlen hok).mono fun e w' ⟨he, hb⟩ => Told.none he hb, fun W A c0 hW hI => (rOf29_bad r wd zs A c0 _ W hI hlen hok).mono fun e w' ⟨he, hb⟩ => Told.none he hb⟩
  | true =>
    rcases hp with ⟨h1, h2⟩ | ⟨n, codes, b2, L, S, q, h1, h2, h3, h4, h5, h6, h7⟩
    · subst h2
      rcases hq with ⟨_, k2⟩ | ⟨_, _, _, _, k1, _⟩
      · exact ⟨[], 1, by simp, fun W A c0 hW hI => (Of_none r wd zs A c0 Option.none W hI hlen hok (.inl rfl)).mono fun e w' ⟨he, hb⟩ => Told.none he hb, fun W A c0 hW hI => (rOf29_none r wd zs A c0 bk W hI hlen hok (k2.keep hW)).mono fun e w' ⟨he, hb⟩ => Told.none he hb⟩
      · exact absurd k1 h1
    · subst h6
      rcases hq with ⟨k1, _⟩ | ⟨n2, codes2, VA, vc, k1, k2, k3, k4, k5⟩
      · exact absurd h1 k1
      · obtain rfl : n = n2 := by omega
        obtain rfl : codes = codes2 := by omega
        have hn2 := h7.small.2.2.2
        by_cases hn : (n : Int) = r * wd
        · obtain ⟨hbits, hlies⟩ := book_bits h7 h5
          have hLids : ∀ x ∈ L, 0 ≤ x.id ∧ x.id < 4294967296 := fun x hx => by
            rw [(bookOf_some h5).1] at hx
            obtain ⟨y, hy, rfl⟩ := List.mem_map.1 hx
            exact hids y hy
          exact ⟨linesTo wd q.ws q.sb n, 0, Nat.le_trans (linesTo_len wd q.ws q.sb n) (by omega), fun W A c0 hW hI => (Of_in S b2 n codes c next clock L q r wd zs A c0 W (h7.below hW) hI hlen hok hn (ht.keep hW) hLids).mono fun e w' h => Told.of h,
            fun W A c0 hW hI => (rOf29_in bk n codes c next clock l VA vc r wd zs A c0 W (k5.keep hW) hI hlen hok hn (by omega) (by omega) q.ws q.sb hbits hlies hids).mono fun e w' h => Told.of h⟩
        · exact ⟨[], 3, by simp, fun W A c0 hW hI => (Of_long S b2 n codes c next clock L q r wd zs A c0 W (h7.below hW) hI hlen hok hn).mono fun e w' ⟨he, hb⟩ => Told.none he hb,
            fun W A c0 hW hI => (rOf29_long bk n codes c next clock l VA vc r wd zs A c0 W (k5.keep hW) hI hlen hok hn (by omega)).mono fun e w' ⟨he, hb⟩ => Told.none he hb⟩
/-- of books that nobody made -/
theorem told_none (r wd : Int) (zs : List Int) (hlen : zs.length ≤ 20000000000000) :
    ∃ g : Int, (∀ W A c0 b, W.cell? ⟨b, 3, Option.none⟩ = some (.bool false) → Cab.Ints W A zs → Calls Tryz.prog 15 #[.agg #[.int .i64 r, .int .i64 wd, .slice A zs.length c0], .pointer (some ⟨b, 0, Option.none⟩)] W (Told [] g W)) ∧
      ∀ W A c0 b, Arr W b 52 rb0 → Cab.Ints W A zs → Calls Tryz.prog 16 #[.agg #[.int .i64 r, .int .i64 wd, .slice A zs.length c0], .pointer (some ⟨b, 0, Option.none⟩)] W (Told [] g W) := by
  cases hok : Cab.okC r wd zs with
  | false => exact ⟨2, fun W A c0 b _ hI => (Of_bad r wd zs A c0 _ W hI hlen hok).mono fun e w' ⟨he, hb⟩ => Told.none he hb, fun W A c0 b _ hI => (rOf29_bad r wd zs A c0 _ W hI hlen hok).mono fun e w' ⟨he, hb⟩ => Told.none he hb⟩
  | true => exact ⟨1, fun W A c0 b hc hI => (Of_none r wd zs A c0 _ W hI hlen hok (.inr ⟨b, rfl, hc⟩)).mono fun e w' ⟨he, hb⟩ => Told.none he hb, fun W A c0 b hc hI => (rOf29_none r wd zs A c0 b W hI hlen hok hc).mono fun e w' ⟨he, hb⟩ => Told.none he hb⟩
set_option maxRecDepth 100000 in
set_option maxHeartbeats 4000000 in
theorem OfLaw_in (r wd : Int) (zs : List Int) (A : Option Addr) (c : Nat) (sa0 sb0 sc0 : Int) (l : List Raw) (LA : Option Addr) (lc : Nat) (w : World) (hw : Wd w) (hI : Cab.Ints w A zs) (hN : A = none → zs = [] ∧ c = 0) (hzl : zs.length ≤ 17592186043904) (hL : Raws w LA l) (hLA : LA = none → l = [] ∧ lc = 0) (hl24 : l.length * 24 ≤ 140737488351232) (hids : ∀ x ∈ l, 0 ≤ x.id ∧ x.id < 4294967296) :
    Calls Tryz.prog 3 #[.agg #[.int .i64 r, .int .i64 wd, .slice A zs.length c], .agg #[.int .i64 sa0, .int .i64 sb0, .int .i64 sc0], .slice LA l.length lc] w fun e w' => e = .returned (.bool true) ∧ Below w.heap.size w w' := by
  have hb0 := ext_alloc (ext_alloc (Below.refl w.heap.size w) (.cells #[.int .i64 r, .int .i64 wd, .slice A zs.length c] 24)) (.cells #[.int .i64 sa0, .int .i64 sb0, .int .i64 sc0] 26)
  have hC0 := (Arr.fresh w 24 #[.int .i64 r, .int .i64 wd, .slice A zs.length c]).alloc (.cells #[.int .i64 sa0, .int .i64 sb0, .int .i64 sc0] 26)
  have hS0 := Arr.new (w := w.alloc (.cells #[.int .i64 r, .int .i64 wd, .slice A zs.length c] 24)) (g := w.heap.size + 1) (t := 26) (cs := #[.int .i64 sa0, .int .i64 sb0, .int .i64 sc0]) (by simp)
  obtain ⟨er, hmade⟩ := made_all sa0 sb0 sc0 4294967295 0 l
  have HB0 := Lib.hid hb0; have HC0 := Lib.hid hC0; have HS0 := Lib.hid hS0; have HMADE := Lib.hid hmade
  have HW := Lib.hid hw; have HI := Lib.hid hI; have HN := Lib.hid hN; have HL := Lib.hid hL; have HLA := Lib.hid hLA; have HIDS := Lib.hid hids
  clear hb0 hC0 hS0 hmade hw hI hN hL hLA hids
  go_enter Tryz.func3, Tryz.ntmps3
  go_wp2_with fail
  refine (awake_in _ (HW.out.keep HB0.out)).mono ?_
  rintro e w1 ⟨rfl, hb1⟩
  have HB1 := Lib.hid (ext_trans HB0.out hb1)
  have HC1 := Lib.hid (HC0.out.keep hb1)
  have HS1 := Lib.hid (HS0.out.keep hb1)
  obtain ⟨cb, hcb⟩ : ∃ cb, w.heap.size = cb := ⟨_, rfl⟩
  obtain ⟨sb, hsb⟩ : ∃ sb, w.heap.size + 1 = sb := ⟨_, rfl⟩
  rw [hcb] at HC1
  rw [hsb] at HS1
  have HSB := Lib.hid hsb; have HCB := Lib.hid hcb
  clear hb1 hsb hcb
  by_cases hbig : (1100 : Int) < (l.length : Int)
  · go_wp2_with fail
    go_ret
    exact ⟨rfl, HB1.out⟩
  have hle : (l.length : Int) ≤ 1100 := by omega
  go_wp2_with fail
  rw [HSB.out, HCB.out]
  have HB1D := Lib.hid (ext_drew HB1.out)
  have HS1D := Lib.hid HS1.out.drew
  have HLD := Lib.hid (HL.out.keep HB1D.out)
  refine wp_region_held_drew (S := (fun w' => w'.cell? ⟨sb, 0, none⟩ = some (.int .i64 sa0) ∧ w'.cell? ⟨sb, 1, none⟩ = some (.int .i64 sb0) ∧ w'.cell? ⟨sb, 2, none⟩ = some (.int .i64 sc0))) (by kernel_rfl) (by exact ⟨HS1D.out.cell 0, HS1D.out.cell 1, HS1D.out.cell 2⟩) (fun hHeld => ?_)
  refine take_yes (i := 0) (oi := ?o1) (d := (some 26)) (v := ?v1) ?hi1 (by kernel_rfl) (by kernel_rfl) (by kernel_rfl) (fun _ _ _ h => h) ?hd1 ?hw1 ?hy1 (by assumption) ?_
  case hi1 => (simp only [List.getElem?_toArray, List.getElem?_cons_zero]; exact rfl)
  case hd1 => rfl
  case hw1 => rfl
  case hy1 => (intro w hSw; (try dsimp only at hSw); go_simp; try with_reducible rfl)
  try simp only [Act.put, List.setIfInBounds_toArray, List.set_cons_zero, List.set_cons_succ]
  refine take_yes (i := 1) (oi := ?o2) (d := (some 27)) (v := ?v2) ?hi2 (by kernel_rfl) (by kernel_rfl) (by kernel_rfl) (fun _ _ _ h => h) ?hd2 ?hw2 ?hy2 (by assumption) ?_
  case hi2 => (simp only [List.getElem?_toArray, List.getElem?_cons_zero, List.getElem?_cons_succ]; exact rfl)
  case hd2 => rfl
  case hw2 => rfl
  case hy2 => (intro w hSw; (try dsimp only at hSw); go_simp; try with_reducible rfl)
  try simp only [Act.put, List.setIfInBounds_toArray, List.set_cons_zero, List.set_cons_succ]
  refine wpAnyH_ready (rs := [2]) (by kernel_rfl) (by simp) ?_
  refine AllReadyH.cons rfl (fun K hK => ?_) AllReadyH.nil
  go_simp
  (go_at_call 12; refine (CopyBookings_in l LA lc _ HLD.out HLA.out hl24).mono ?_; rintro e w2 ⟨VA, vc, rfl, hr2, hb2⟩; have HR2 := Lib.hid (RowIn.raws hr2); have HB2 := Lib.hid (ext_trans HB1D.out hb2); have HS2 := Lib.hid (HS1D.out.keep hb2); have HQ2 := Lib.hid (ext_trans (ext_drew (Below.refl w1.heap.size w1)) hb2); clear hr2 hb2)
  go_wp2_with fail
  refine hK.out _ _ (by first | exact ⟨HS3.out.cell 0, HS3.out.cell 1, HS3.out.cell 2⟩ | exact ⟨HS2.out.cell 0, HS2.out.cell 1, HS2.out.cell 2⟩) (fun hHeld2 => ?_)
  clear hK K
  try simp only [Act.put, List.setIfInBounds_toArray, List.set_cons_zero, List.set_cons_succ]
  refine wpAnyH_ready (rs := [3]) (by kernel_rfl) (by simp) ?_
  refine AllReadyH.cons rfl (fun K hK => ?_) AllReadyH.nil
  go_simp
  (go_at_call 11; refine (Of_made sa0 sb0 sc0 4294967295 0 l er HMADE.out VA vc _ HR2.out (by omega) (by omega) HIDS.out).mono ?_; rintro e w3 ⟨⟨p, rfl, hp3⟩, hb3⟩; have HP3 := Lib.hid hp3; have HB3 := Lib.hid (ext_trans HB2.out hb3); have HS3 := Lib.hid (HS2.out.keep hb3); have HQ3 := Lib.hid (ext_trans HQ2.out hb3); clear hp3 hb3)
  go_wp2_with fail
  refine hK.out _ _ (by first | exact ⟨HS3.out.cell 0, HS3.out.cell 1, HS3.out.cell 2⟩ | exact ⟨HS2.out.cell 0, HS2.out.cell 1, HS2.out.cell 2⟩) (fun hHeld3 => ?_)
  clear hK K
  try simp only [Act.put, List.setIfInBounds_toArray, List.set_cons_zero, List.set_cons_succ]
  refine take_yes (i := 4) (oi := ?o3) (d := (some 25)) (v := ?v3) ?hi3 (by kernel_rfl) (by kernel_rfl) (by kernel_rfl) (fun _ _ _ h => h) ?hd3 ?hw3 ?hy3 (by assumption) ?_
  case hi3 => (simp only [List.getElem?_toArray, List.getElem?_cons_zero, List.getElem?_cons_succ]; exact rfl)
  case hd3 => rfl
  case hw3 => rfl
  case hy3 => (intro w hSw; (try dsimp only at hSw); go_simp; try with_reducible rfl)
  try simp only [Act.put, List.setIfInBounds_toArray, List.set_cons_zero, List.set_cons_succ]
  refine take_yes (i := 5) (oi := ?o4) (d := (some 30)) (v := ?v4) ?hi4 (by kernel_rfl) (by kernel_rfl) (by kernel_rfl) (fun _ _ _ h => h) ?hd4 ?hw4 ?hy4 (by assumption) ?_
  case hi4 => (simp only [List.getElem?_toArray, List.getElem?_cons_zero, List.getElem?_cons_succ]; exact rfl)
  case hd4 => rfl
  case hw4 => rfl
  case hy4 => (intro w hSw; (try dsimp only at hSw); go_simp; try with_reducible rfl)
  try simp only [Act.put, List.setIfInBounds_toArray, List.set_cons_zero, List.set_cons_succ]
  refine take_yes (i := 6) (oi := ?o5) (d := (some 31)) (v := ?v5) ?hi5 (by kernel_rfl) (by kernel_rfl) (by kernel_rfl) (fun _ _ _ h => h) ?hd5 ?hw5 ?hy5 (by assumption) ?_
  case hi5 => (simp only [List.getElem?_toArray, List.getElem?_cons_zero, List.getElem?_cons_succ]; exact rfl)
  case hd5 => rfl
  case hw5 => rfl
  case hy5 => (intro w hSw; (try dsimp only at hSw); go_simp; try with_reducible rfl)
  try simp only [Act.put, List.setIfInBounds_toArray, List.set_cons_zero, List.set_cons_succ]
  refine take_yes (i := 7) (oi := ?o6) (d := (some 7)) (v := ?v6) ?hi6 (by kernel_rfl) (by kernel_rfl) (by kernel_rfl) (fun _ _ _ h => h) ?hd6 ?hw6 ?hy6 (by assumption) ?_
  case hi6 => (simp only [List.getElem?_toArray, List.getElem?_cons_zero, List.getElem?_cons_succ]; exact rfl)
  case hd6 => rfl
  case hw6 => rfl
  case hy6 => (intro w hSw; (try dsimp only at hSw); go_simp; try with_reducible rfl)
  try simp only [Act.put, List.setIfInBounds_toArray, List.set_cons_zero, List.set_cons_succ]
  refine take_yes (i := 8) (oi := ?o7) (d := (some 8)) (v := ?v7) ?hi7 (by kernel_rfl) (by kernel_rfl) (by kernel_rfl) (fun _ _ _ h => h) ?hd7 ?hw7 ?hy7 (by assumption) ?_
  case hi7 => (simp only [List.getElem?_toArray, List.getElem?_cons_zero, List.getElem?_cons_succ]; exact rfl)
  case hd7 => rfl
  case hw7 => rfl
  case hy7 => (intro w hSw; (try dsimp only at hSw); go_simp; try with_reducible rfl)
  try simp only [Act.put, List.setIfInBounds_toArray, List.set_cons_zero, List.set_cons_succ]
  refine wpAnyH_done (by kernel_rfl) ?_ _
  have HC3 := Lib.hid (HC1.out.keep HQ3.out)
  have hee : (er != er) = false := by simp
  have y0 : w3.cell? ⟨sb, 0, none⟩ = some (.int .i64 sa0) := HS3.out.cell 0
  have y1 : w3.cell? ⟨sb, 1, none⟩ = some (.int .i64 sb0) := HS3.out.cell 1
  have y2 : w3.cell? ⟨sb, 2, none⟩ = some (.int .i64 sc0) := HS3.out.cell 2
  go_wp2_with fail
  refine (rOf_made sa0 sb0 sc0 4294967295 0 l er HMADE.out LA lc w3 (HL.out.keep HB3.out) HLA.out hl24 (by omega) HIDS.out).mono ?_
  rintro e w4 ⟨⟨bk, rfl, hq4⟩, hb4⟩
  have HB4 := Lib.hid (ext_trans HB3.out hb4)
  have HR4 := Lib.hid hq4
  have HP4 := Lib.hid (HP3.out.keep hb4)
  have HC4 := Lib.hid (HC3.out.keep hb4)
  clear hq4 hb4 y0 y1 y2
  have z0 : w4.cell? ⟨cb, 0, none⟩ = some (.int .i64 r) := HC4.out.cell 0
  have z1 : w4.cell? ⟨cb, 1, none⟩ = some (.int .i64 wd) := HC4.out.cell 1
  have z2 : w4.cell? ⟨cb, 2, none⟩ = some (.slice A zs.length c) := HC4.out.cell 2
  go_wp2_with fail
  refine (Cab.LentCabin r wd zs A c w4 (HI.out.keep HB4.out) HN.out hzl).mono ?_
  rintro e w5 ⟨g, cap, rfl, hown, hb5⟩
  have hb6 := ext_alloc hb5 (.cells #[.int .i64 r, .int .i64 wd, .slice (some ⟨g, 0, none⟩) zs.length cap] 24)
  have hN6 := Arr.fresh w5 24 #[.int .i64 r, .int .i64 wd, .slice (some ⟨g, 0, none⟩) zs.length cap]
  have HOWN := Lib.hid (own_alloc hown (.cells #[.int .i64 r, .int .i64 wd, .slice (some ⟨g, 0, none⟩) zs.length cap] 24))
  clear hown hb5 z0 z1 z2
  go_wp2_with fail
  obtain ⟨w6, hw6⟩ : ∃ w6, w5.alloc (.cells #[.int .i64 r, .int .i64 wd, .slice (some ⟨g, 0, none⟩) zs.length cap] 24) = w6 := ⟨_, rfl⟩
  obtain ⟨ib, hib⟩ : ∃ ib, w5.heap.size = ib := ⟨_, rfl⟩
  rw [hw6] at hb6 hN6 HOWN ⊢
  rw [hib] at hN6 ⊢
  have HB6 := Lib.hid (ext_trans HB4.out hb6)
  have HN6 := Lib.hid hN6
  have HC6 := Lib.hid (HC4.out.keep hb6)
  have hII : Cab.Ints w6 (some ⟨g, 0, none⟩) zs := fun _ => ⟨g, 0, rfl, (own_lt HOWN.out rfl).1, fun j hj => by rw [Nat.zero_add]; exact (Cab.lent_cell HOWN.out).1 j hj⟩
  have HII := Lib.hid hII
  obtain ⟨ls, gq, hls, ht1, ht2⟩ := told_all sa0 sb0 sc0 4294967295 0 l er p bk w6 (HP4.out.keep hb6) (HR4.out.keep hb6) (by omega) HIDS.out r wd zs (by omega) (HW.out.tab.keep HB6.out)
  obtain ⟨gn, hn1, hn2⟩ := told_none r wd zs (by omega)
  have HT2 := Lib.hid ht2; have HN1 := Lib.hid hn1; have HN2 := Lib.hid hn2
  have HG1 := Lib.hid (show (gq == gq) = true by simp); have HG2 := Lib.hid (show (gn == gn) = true by simp)
  clear hb6 hN6 hII hw6 hib ht2 hn1 hn2
  refine (ht1 w6 (some ⟨g, 0, none⟩) cap (Below.refl _ _) HII.out).mono ?_
  rintro e w7 ⟨⟨XA, xc, rfl, hx⟩, hb7⟩
  have HB7 := Lib.hid (ext_trans HB6.out hb7)
  have HQ7 := Lib.hid hb7
  have HX := Lib.hid hx
  have HC7 := Lib.hid (HC6.out.keep hb7); have HN7 := Lib.hid (HN6.out.keep hb7)
  clear hb7 hx ht1
  have z0 : w7.cell? ⟨cb, 0, none⟩ = some (.int .i64 r) := HC7.out.cell 0
  have z1 : w7.cell? ⟨cb, 1, none⟩ = some (.int .i64 wd) := HC7.out.cell 1
  have z2 : w7.cell? ⟨cb, 2, none⟩ = some (.slice A zs.length c) := HC7.out.cell 2
  go_wp2_with fail
  refine (HT2.out w7 A c HQ7.out (HI.out.keep HB7.out)).mono ?_
  rintro e w8 ⟨⟨YA, yc, rfl, hy⟩, hb8⟩
  have HB8 := Lib.hid (ext_trans HB7.out hb8)
  have HQ8 := Lib.hid (ext_trans HQ7.out hb8)
  have HY := Lib.hid hy
  have HX8 := Lib.hid (HX.out.keep hb8)
  have HC8 := Lib.hid (HC7.out.keep hb8); have HN8 := Lib.hid (HN7.out.keep hb8)
  clear hb8 hy z0 z1 z2
  have z0 : w8.cell? ⟨ib, 0, none⟩ = some (.int .i64 r) := HN8.out.cell 0
  have z1 : w8.cell? ⟨ib, 1, none⟩ = some (.int .i64 wd) := HN8.out.cell 1
  have z2 : w8.cell? ⟨ib, 2, none⟩ = some (.slice (some ⟨g, 0, none⟩) zs.length cap) := HN8.out.cell 2
  go_wp2_with fail
  obtain ⟨w9, hw9⟩ : ∃ w9, w8.alloc (.cells #[.int .i64 0, .int .i64 0, .int .i64 0, .bool false, .int .i64 0, .int .u32 0, .pointer none, .pointer none, .slice none 0 0, .pointer none, .map none] 50) = w9 := ⟨_, rfl⟩
  have hb9 : Below w8.heap.size w8 w9 := by rw [← hw9]; exact ext_alloc (Below.refl _ _) _
  have hP9 : Arr w9 w8.heap.size 50 #[.int .i64 0, .int .i64 0, .int .i64 0, .bool false, .int .i64 0, .int .u32 0, .pointer none, .pointer none, .slice none 0 0, .pointer none, .map none] := by rw [← hw9]; exact Arr.fresh _ _ _
  rw [hw9]
  have HB9 := Lib.hid (ext_trans HB8.out hb9)
  have HQ9 := Lib.hid (ext_trans HQ8.out hb9)
  have HX9 := Lib.hid (HX8.out.keep hb9); have HY9 := Lib.hid (HY.out.keep hb9)
  have HC9 := Lib.hid (HC8.out.keep hb9); have HN9 := Lib.hid (HN8.out.keep hb9)
  clear hw9 hb9 z0 z1 z2
  refine (HN1.out w9 (some ⟨g, 0, none⟩) cap w8.heap.size (hP9.cell 3) (HII.out.keep HQ9.out)).mono ?_
  rintro e w10 ⟨⟨ZA, zc, rfl, hz⟩, hb10⟩
  have HB10 := Lib.hid (ext_trans HB9.out hb10)
  have HQ10 := Lib.hid (ext_trans HQ9.out hb10)
  have HX10 := Lib.hid (HX9.out.keep hb10); have HY10 := Lib.hid (HY9.out.keep hb10); have HZ10 := Lib.hid hz
  have HC10 := Lib.hid (HC9.out.keep hb10); have HN10 := Lib.hid (HN9.out.keep hb10)
  clear hb10 hz hP9
  have z0 : w10.cell? ⟨cb, 0, none⟩ = some (.int .i64 r) := HC10.out.cell 0
  have z1 : w10.cell? ⟨cb, 1, none⟩ = some (.int .i64 wd) := HC10.out.cell 1
  have z2 : w10.cell? ⟨cb, 2, none⟩ = some (.slice A zs.length c) := HC10.out.cell 2
  go_wp2_with fail
  obtain ⟨w11, hw11⟩ : ∃ w11, w10.alloc (.cells rb0 52) = w11 := ⟨_, rfl⟩
  have hb11 : Below w10.heap.size w10 w11 := by rw [← hw11]; exact ext_alloc (Below.refl _ _) _
  have hP11 : Arr w11 w10.heap.size 52 rb0 := by rw [← hw11]; exact Arr.fresh _ _ _
  rw [hw11]
  have HB11 := Lib.hid (ext_trans HB10.out hb11)
  have HQ11 := Lib.hid (ext_trans HQ10.out hb11)
  have HX11 := Lib.hid (HX10.out.keep hb11); have HY11 := Lib.hid (HY10.out.keep hb11); have HZ11 := Lib.hid (HZ10.out.keep hb11)
  have HC11 := Lib.hid (HC10.out.keep hb11); have HN11 := Lib.hid (HN10.out.keep hb11)
  clear hw11 hb11 z0 z1 z2
  refine (HN2.out w11 A c w10.heap.size hP11 (HI.out.keep HB11.out)).mono ?_
  rintro e w12 ⟨⟨UA, uc, rfl, hu⟩, hb12⟩
  have HB12 := Lib.hid (ext_trans HB11.out hb12)
  have HQ12 := Lib.hid (ext_trans HQ11.out hb12)
  have HX12 := Lib.hid (HX11.out.keep hb12); have HY12 := Lib.hid (HY11.out.keep hb12); have HZ12 := Lib.hid (HZ11.out.keep hb12); have HU12 := Lib.hid hu
  have HC12 := Lib.hid (HC11.out.keep hb12); have HN12 := Lib.hid (HN11.out.keep hb12)
  clear hb12 hu hP11
  have z0 : w12.cell? ⟨cb, 0, none⟩ = some (.int .i64 r) := HC12.out.cell 0
  have z1 : w12.cell? ⟨cb, 1, none⟩ = some (.int .i64 wd) := HC12.out.cell 1
  have z2 : w12.cell? ⟨cb, 2, none⟩ = some (.slice A zs.length c) := HC12.out.cell 2
  have x0 : w12.cell? ⟨ib, 0, none⟩ = some (.int .i64 r) := HN12.out.cell 0
  have x1 : w12.cell? ⟨ib, 1, none⟩ = some (.int .i64 wd) := HN12.out.cell 1
  have x2 : w12.cell? ⟨ib, 2, none⟩ = some (.slice (some ⟨g, 0, none⟩) zs.length cap) := HN12.out.cell 2
  go_wp2_with fail
  refine (Cab.KeptCabin r wd zs _ g cap A c w12 (own_keep HOWN.out HQ12.out) (HI.out.keep HB12.out) hzl).mono ?_
  rintro e w13 ⟨rfl, hb13⟩
  have HB13 := Lib.hid (ext_trans HB12.out hb13)
  have HX13 := Lib.hid (HX12.out.keep hb13); have HY13 := Lib.hid (HY12.out.keep hb13); have HZ13 := Lib.hid (HZ12.out.keep hb13); have HU13 := Lib.hid (HU12.out.keep hb13)
  have g1 := HG1.out; have g2 := HG2.out
  clear hb13 z0 z1 z2 x0 x1 x2
  go_wp2_with fail
  refine (SameLines_in ls XA YA xc yc w13 HX13.out HY13.out (by omega)).mono ?_
  rintro e w14 ⟨rfl, hb14⟩
  have HB14 := Lib.hid (ext_trans HB13.out hb14)
  have HZ14 := Lib.hid (HZ13.out.keep hb14); have HU14 := Lib.hid (HU13.out.keep hb14)
  clear hb14
  go_wp2_with fail
  refine (SameLines_in [] ZA UA zc uc w14 HZ14.out HU14.out (by decide)).mono ?_
  rintro e w15 ⟨rfl, hb15⟩
  go_wp2_with fail
  go_ret
  exact ⟨rfl, ext_trans HB14.out hb15⟩

end Go.Proofs.YtpoijhjjbmaedaaGreatDoor.Man
