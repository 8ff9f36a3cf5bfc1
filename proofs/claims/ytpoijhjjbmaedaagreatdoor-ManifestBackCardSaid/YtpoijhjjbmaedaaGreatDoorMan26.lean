/- The lines of a book, plainly: their seats rise, as many as bookings, good lines. -/
import Derived.Test.YtpoijhjjbmaedaaGreatDoorMan25
set_option linter.unusedVariables false
set_option linter.unusedSimpArgs false
namespace Go.Proofs.YtpoijhjjbmaedaaGreatDoor.Man
open Go.RowKit
open Go.Proofs.YtpoijhjjbmaedaaGreatDoor.Bit (hasB)
open Go.Proofs.YtpoijhjjbmaedaaGreatDoor.Bk (Bkg Raw rawL Raws bookOf ofR mayR toB BookAt Parts Comp)

theorem nodup_le : ∀ {l1 l2 : List Nat}, l1.Nodup → (∀ x ∈ l1, x ∈ l2) → l1.length ≤ l2.length
  | [], _, _, _ => Nat.zero_le _
  | a :: l1, l2, h, hs => by
    obtain ⟨h1, h2⟩ := List.nodup_cons.1 h
    have ha : a ∈ l2 := hs a List.mem_cons_self
    have := nodup_le (l2 := l2.erase a) h2 (fun x hx => by
      have hne : x ≠ a := fun e => h1 (e ▸ hx)
      exact (List.mem_erase_of_ne hne).2 (hs x (List.mem_cons_of_mem _ hx)))
    rw [List.length_erase_of_mem ha] at this
    have hp : 0 < l2.length := List.length_pos_of_mem ha
    rw [List.length_cons]
    omega
theorem ofR_sorted {n : Nat} {next clock : Int} : ∀ {l : List Raw} {L0 : List Bkg} {last : Int} {L : List Bkg}, ofR n next clock L0 last l = some L → (∀ y ∈ L0, y.id ≤ last) → L0.Pairwise (fun a b => a.id < b.id) → L.Pairwise (fun a b => a.id < b.id)
  | [], L0, _, L, h, _, hp => by
    simp only [ofR, Option.some.injEq] at h
    rw [← h]; exact hp
  | x :: l, L0, last, L, h, hl, hp => by
    rw [ofR] at h
    by_cases hm : mayR n next clock L0 last x = true
    · rw [if_pos hm] at h
      obtain ⟨m1, _⟩ := Bk.mayR_yes hm
      refine ofR_sorted h (fun y hy => ?_) ?_
      · rcases List.mem_append.1 hy with hy | hy
        · have := hl y hy; omega
        · rw [List.mem_singleton.1 hy]; exact Int.le_refl _
      · rw [List.pairwise_append]
        refine ⟨hp, List.pairwise_singleton _ _, fun a ha b hb => ?_⟩
        rw [List.mem_singleton.1 hb]
        have := hl a ha
        show a.id < x.id
        omega
    · rw [if_neg hm] at h; cases h
theorem bookOf_sorted {n codes : Nat} {next clock : Int} {l : List Raw} {L : List Bkg} (h : bookOf n codes next clock l = some L) : L.Pairwise (fun a b => a.id < b.id) := by
  unfold bookOf at h
  split at h
  · cases h
  · exact ofR_sorted h (by simp) List.Pairwise.nil
/-- the seats of the lines -/
def seatsTo (ws : Nat → Nat) : Nat → List Nat
  | 0 => []
  | k + 1 => if hasB ws k = true then seatsTo ws k ++ [k] else seatsTo ws k
theorem seats_mem (ws : Nat → Nat) (i : Nat) : ∀ k, i ∈ seatsTo ws k ↔ i < k ∧ hasB ws i = true
  | 0 => by simp [seatsTo]
  | k + 1 => by
    have ih := seats_mem ws i k
    rw [seatsTo]
    split
    · rename_i hk
      rw [List.mem_append, List.mem_singleton, ih]
      constructor
      · rintro (⟨h1, h2⟩ | rfl)
        · exact ⟨by omega, h2⟩
        · exact ⟨by omega, hk⟩
      · rintro ⟨h1, h2⟩
        rcases Nat.lt_or_ge i k with h3 | h3
        · exact .inl ⟨h3, h2⟩
        · exact .inr (by omega)
    · rename_i hk
      rw [ih]
      constructor
      · rintro ⟨h1, h2⟩; exact ⟨by omega, h2⟩
      · rintro ⟨h1, h2⟩
        refine ⟨?_, h2⟩
        rcases Nat.lt_or_ge i k with h3 | h3
        · exact h3
        · exact absurd (show hasB ws k = true by rw [show k = i by omega]; exact h2) hk
theorem seats_up (ws : Nat → Nat) : ∀ k, (seatsTo ws k).Pairwise (· < ·)
  | 0 => List.Pairwise.nil
  | k + 1 => by
    rw [seatsTo]
    split
    · rw [List.pairwise_append]
      refine ⟨seats_up ws k, List.pairwise_singleton _ _, fun a ha b hb => ?_⟩
      rw [List.mem_singleton.1 hb]
      exact ((seats_mem ws a k).1 ha).1
    · exact seats_up ws k
theorem lines_seats (wd : Int) (ws : Nat → Nat) (sb : Nat → Bkg) : ∀ k, linesTo wd ws sb k = (seatsTo ws k).map (fun i => lineAt wd i (sb i))
  | 0 => rfl
  | k + 1 => by
    rw [linesTo, seatsTo, lines_seats wd ws sb k]
    split
    · simp
    · rfl
/-- as many lines as bookings -/
theorem lines_count {S : Nat → Prop} {w : World} {b n codes : Nat} {group next clock : Int} {L : List Bkg} {q : Parts} (h : BookAt S w b n codes group next clock L q) (hp : L.Pairwise (fun a b => a.id < b.id)) : (seatsTo q.ws n).length = L.length := by
  have hn1 : (seatsTo q.ws n).Nodup := (seats_up q.ws n).imp (fun h e => by omega)
  have hn2 : (L.map (·.seat)).Nodup := by
    rw [List.Nodup, List.pairwise_map]
    refine hp.imp_of_mem (fun {a c} ha hc hac e => ?_)
    have h1 := (h.lies a ha).2
    have h2 := (h.lies c hc).2
    rw [e] at h1
    rw [h1] at h2
    rw [h2] at hac
    omega
  have h1 := nodup_le hn1 (l2 := L.map (·.seat)) (fun i hi => by
    obtain ⟨hi1, hi2⟩ := (seats_mem q.ws i n).1 hi
    obtain ⟨x, hx, e⟩ := (h.bits i hi1).1 hi2
    exact List.mem_map.2 ⟨x, hx, e⟩)
  have h2 := nodup_le hn2 (l2 := seatsTo q.ws n) (fun i hi => by
    obtain ⟨x, hx, rfl⟩ := List.mem_map.1 hi
    exact (seats_mem q.ws _ n).2 ⟨(h.lies x hx).1, (h.bits _ (h.lies x hx).1).2 ⟨x, hx, rfl⟩⟩)
  rw [List.length_map] at h1 h2
  omega
theorem seatT_le : ∀ r : Fin 64, ∀ c : Fin 16, (Cab.seatT r.val c.val).length ≤ 3 := by decide +kernel
/-- what a line says -/
structure LineOf (r wd : Int) (L : List Bkg) (s : Nat) (x : Ln) : Prop where
  good : GoodLn x
  small : x.seat.size ≤ 3 ∧ x.code.size = 8
  says : ∃ (row col : Nat) (y : Bkg) (m : Nat), y ∈ L ∧ y.seat = s ∧ y.id = (m : Int) ∧ m < 4294967296 ∧ (row : Int) < r ∧ (col : Int) < wd ∧ (row : Int) * wd + col = (s : Int) ∧ x.seat = ⟨(Cab.seatT row col).toArray⟩ ∧ x.code = ⟨(Cod.txt m).toArray⟩ ∧ x.held = !(y.til == 0)
theorem line_of {S : Nat → Prop} {w : World} {b n codes : Nat} {group next clock : Int} {L : List Bkg} {q : Parts} (h : BookAt S w b n codes group next clock L q) {r wd : Int} {zs : List Int} (hok : Cab.okC r wd zs = true) (hn : (n : Int) = r * wd) (hids : ∀ x ∈ L, 0 ≤ x.id ∧ x.id < 4294967296) {s : Nat} (hs : s ∈ seatsTo q.ws n) : LineOf r wd L s (lineAt wd s (q.sb s)) := by
  obtain ⟨hs1, hs2⟩ := (seats_mem q.ws s n).1 hs
  obtain ⟨y, hy, hys⟩ := (h.bits s hs1).1 hs2
  have hsb : q.sb s = y := by have := (h.lies y hy).2; rw [hys] at this; exact this
  obtain ⟨m, hm⟩ : ∃ m : Nat, y.id = (m : Int) := ⟨y.id.toNat, by have := hids y hy; omega⟩
  have hm2 : m < 4294967296 := by have := hids y hy; omega
  obtain ⟨row, col, h1, h2, h3, h4, h5, h6, h7⟩ := Cab.seat_rc hok (k := (s : Int)) (by omega) (by omega)
  have hx : lineAt wd s (q.sb s) = ⟨⟨(Cab.seatT row col).toArray⟩, ⟨(Cod.txt m).toArray⟩, !(y.til == 0)⟩ := by
    unfold lineAt
    rw [h1, h2, hsb, hm]
    simp only [Int.toNat_natCast]
  rw [hx]
  exact ⟨⟨okA_seat h5 h6, okB_txt hm2⟩, ⟨by rw [Lib.size_eq]; exact seatT_le ⟨row, h5⟩ ⟨col, h6⟩, by rw [Lib.size_eq]; exact Cod.txt_len m⟩, row, col, y, m, hy, hys, hm, hm2, h3, h4, h7, rfl, rfl, rfl⟩
theorem txt_bulk : ∀ ls : List Ln, (txtL ls).length ≤ bulk ls
  | [] => by simp [txtL, bulk]
  | x :: ls => by
    have h1 := txt_bulk ls
    have h2 := lineT_len x
    simp only [txtL, bulk, List.map_cons, List.flatten_cons, List.length_append, List.sum_cons] at h1 ⊢
    omega
theorem bulk_small : ∀ {ls : List Ln}, (∀ x ∈ ls, x.seat.size ≤ 3 ∧ x.code.size = 8) → bulk ls ≤ ls.length * 23
  | [], _ => by simp [bulk]
  | x :: ls, h => by
    have h1 := bulk_small (ls := ls) (fun y hy => h y (List.mem_cons_of_mem _ hy))
    have h2 := h x List.mem_cons_self
    simp only [bulk, List.map_cons, List.sum_cons, List.length_cons] at h1 ⊢
    omega

end Go.Proofs.YtpoijhjjbmaedaaGreatDoor.Man
