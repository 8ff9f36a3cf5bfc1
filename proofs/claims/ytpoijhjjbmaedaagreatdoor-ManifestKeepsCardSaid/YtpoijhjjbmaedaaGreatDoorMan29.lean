/- The bag's other lists: there are none. -/
import Derived.Test.YtpoijhjjbmaedaaGreatDoorKitA
import Derived.OwnWalk
import Derived.Test.YtpoijhjjbmaedaaGreatDoorProg
set_option linter.unusedVariables false
set_option linter.unusedSimpArgs false
namespace Go.Proofs.YtpoijhjjbmaedaaGreatDoor.Fl
open Go.RowKit

theorem info_Limbs : (Tryz.prog.info? 207).map (fun i => (i.zero, i.size, i.bytes)) = some (some (.slice none 0 0), 1, 24) := by kernel_rfl
set_option maxRecDepth 100000 in
set_option maxHeartbeats 1000000 in
theorem FlatNil_Limbs (w : World) : Calls Tryz.prog 103 #[.slice none 0 0] w fun e w' => e = .returned (.bool true) ∧ Below w.heap.size w w' := by
  obtain ⟨i1, hi1, hz01, hz11, hz21⟩ := info_parts info_Limbs
  go_enter Tryz.func103, Tryz.ntmps103
  go_wp2_with fail
  go_loopw [3] (fun k wr => k = .int .i64 0 ∧ Below w.heap.size w wr) (fun _ _ => 0)
  case atStart => exact ⟨rfl, Below.refl _ _⟩
  case round =>
    obtain ⟨rfl, hb0⟩ := hrel
    go_wp2_with (refine wpList_make_full _ rfl _ _ 112 rfl wr.heap.size 207 i1 (.slice none 0 0) 1 Tryz.underlying112 hi1 hz01 hz11 .i64 .i64 _ _ 0 rfl rfl rfl rfl (by omega) (by decide) (Nat.le_refl _) ?_; intro w5 hown5 hg5; have HG5 := Lib.hid hg5; clear hown5 hg5)
    have hbm : Below w.heap.size w w5 := Below.grown hb0 HG5.out hb0.size (by simp)
    go_loopw [6] (fun k wr => k = .int .i64 0 ∧ Below w.heap.size w wr) (fun _ _ => 0)
    case atStart => exact ⟨rfl, hbm⟩
    case round =>
      obtain ⟨rfl, hb1⟩ := hrel
      go_wp2_with fail
      go_loopw [9] (fun k wr => k = .int .i64 0 ∧ Below w.heap.size w wr) (fun _ _ => 0)
      case atStart => exact ⟨rfl, hb1⟩
      case round =>
        obtain ⟨rfl, hb2⟩ := hrel
        go_wp2_with fail
        go_loopw [11] (fun k wr => k = .int .i64 0 ∧ Below w.heap.size w wr) (fun _ _ => 0)
        case atStart => exact ⟨rfl, hb2⟩
        case round =>
          obtain ⟨rfl, hb3⟩ := hrel
          go_wp2_with fail
          go_loopw [14] (fun k wr => k = .int .i64 0 ∧ Below w.heap.size w wr) (fun _ _ => 0)
          case atStart => exact ⟨rfl, hb3⟩
          case round =>
            obtain ⟨rfl, hb4⟩ := hrel
            go_wp2_with fail
            go_ret
            exact ⟨rfl, hb4⟩

theorem info_Ints : (Tryz.prog.info? 22).map (fun i => (i.zero, i.size, i.bytes)) = some (some (.slice none 0 0), 1, 24) := by kernel_rfl
set_option maxRecDepth 100000 in
set_option maxHeartbeats 1000000 in
theorem FlatNil_Ints (w : World) : Calls Tryz.prog 104 #[.slice none 0 0] w fun e w' => e = .returned (.bool true) ∧ Below w.heap.size w w' := by
  obtain ⟨i1, hi1, hz01, hz11, hz21⟩ := info_parts info_Ints
  go_enter Tryz.func104, Tryz.ntmps104
  go_wp2_with fail
  go_loopw [3] (fun k wr => k = .int .i64 0 ∧ Below w.heap.size w wr) (fun _ _ => 0)
  case atStart => exact ⟨rfl, Below.refl _ _⟩
  case round =>
    obtain ⟨rfl, hb0⟩ := hrel
    go_wp2_with (refine wpList_make_full _ rfl _ _ 113 rfl wr.heap.size 22 i1 (.slice none 0 0) 1 Tryz.underlying113 hi1 hz01 hz11 .i64 .i64 _ _ 0 rfl rfl rfl rfl (by omega) (by decide) (Nat.le_refl _) ?_; intro w5 hown5 hg5; have HG5 := Lib.hid hg5; clear hown5 hg5)
    have hbm : Below w.heap.size w w5 := Below.grown hb0 HG5.out hb0.size (by simp)
    go_loopw [6] (fun k wr => k = .int .i64 0 ∧ Below w.heap.size w wr) (fun _ _ => 0)
    case atStart => exact ⟨rfl, hbm⟩
    case round =>
      obtain ⟨rfl, hb1⟩ := hrel
      go_wp2_with fail
      go_loopw [9] (fun k wr => k = .int .i64 0 ∧ Below w.heap.size w wr) (fun _ _ => 0)
      case atStart => exact ⟨rfl, hb1⟩
      case round =>
        obtain ⟨rfl, hb2⟩ := hrel
        go_wp2_with fail
        go_loopw [11] (fun k wr => k = .int .i64 0 ∧ Below w.heap.size w wr) (fun _ _ => 0)
        case atStart => exact ⟨rfl, hb2⟩
        case round =>
          obtain ⟨rfl, hb3⟩ := hrel
          go_wp2_with fail
          go_loopw [14] (fun k wr => k = .int .i64 0 ∧ Below w.heap.size w wr) (fun _ _ => 0)
          case atStart => exact ⟨rfl, hb3⟩
          case round =>
            obtain ⟨rfl, hb4⟩ := hrel
            go_wp2_with fail
            go_ret
            exact ⟨rfl, hb4⟩

theorem info_Longs : (Tryz.prog.info? 220).map (fun i => (i.zero, i.size, i.bytes)) = some (some (.slice none 0 0), 1, 24) := by kernel_rfl
set_option maxRecDepth 100000 in
set_option maxHeartbeats 1000000 in
theorem FlatNil_Longs (w : World) : Calls Tryz.prog 105 #[.slice none 0 0] w fun e w' => e = .returned (.bool true) ∧ Below w.heap.size w w' := by
  obtain ⟨i1, hi1, hz01, hz11, hz21⟩ := info_parts info_Longs
  go_enter Tryz.func105, Tryz.ntmps105
  go_wp2_with fail
  go_loopw [3] (fun k wr => k = .int .i64 0 ∧ Below w.heap.size w wr) (fun _ _ => 0)
  case atStart => exact ⟨rfl, Below.refl _ _⟩
  case round =>
    obtain ⟨rfl, hb0⟩ := hrel
    go_wp2_with (refine wpList_make_full _ rfl _ _ 114 rfl wr.heap.size 220 i1 (.slice none 0 0) 1 Tryz.underlying114 hi1 hz01 hz11 .i64 .i64 _ _ 0 rfl rfl rfl rfl (by omega) (by decide) (Nat.le_refl _) ?_; intro w5 hown5 hg5; have HG5 := Lib.hid hg5; clear hown5 hg5)
    have hbm : Below w.heap.size w w5 := Below.grown hb0 HG5.out hb0.size (by simp)
    go_loopw [6] (fun k wr => k = .int .i64 0 ∧ Below w.heap.size w wr) (fun _ _ => 0)
    case atStart => exact ⟨rfl, hbm⟩
    case round =>
      obtain ⟨rfl, hb1⟩ := hrel
      go_wp2_with fail
      go_loopw [9] (fun k wr => k = .int .i64 0 ∧ Below w.heap.size w wr) (fun _ _ => 0)
      case atStart => exact ⟨rfl, hb1⟩
      case round =>
        obtain ⟨rfl, hb2⟩ := hrel
        go_wp2_with fail
        go_loopw [11] (fun k wr => k = .int .i64 0 ∧ Below w.heap.size w wr) (fun _ _ => 0)
        case atStart => exact ⟨rfl, hb2⟩
        case round =>
          obtain ⟨rfl, hb3⟩ := hrel
          go_wp2_with fail
          go_loopw [14] (fun k wr => k = .int .i64 0 ∧ Below w.heap.size w wr) (fun _ _ => 0)
          case atStart => exact ⟨rfl, hb3⟩
          case round =>
            obtain ⟨rfl, hb4⟩ := hrel
            go_wp2_with fail
            go_ret
            exact ⟨rfl, hb4⟩

theorem info_Texts : (Tryz.prog.info? 167).map (fun i => (i.zero, i.size, i.bytes)) = some (some (.slice none 0 0), 1, 24) := by kernel_rfl
set_option maxRecDepth 100000 in
set_option maxHeartbeats 1000000 in
theorem FlatNil_Texts (w : World) : Calls Tryz.prog 106 #[.slice none 0 0] w fun e w' => e = .returned (.bool true) ∧ Below w.heap.size w w' := by
  obtain ⟨i1, hi1, hz01, hz11, hz21⟩ := info_parts info_Texts
  go_enter Tryz.func106, Tryz.ntmps106
  go_wp2_with fail
  go_loopw [3] (fun k wr => k = .int .i64 0 ∧ Below w.heap.size w wr) (fun _ _ => 0)
  case atStart => exact ⟨rfl, Below.refl _ _⟩
  case round =>
    obtain ⟨rfl, hb0⟩ := hrel
    go_wp2_with (refine wpList_make_full _ rfl _ _ 115 rfl wr.heap.size 167 i1 (.slice none 0 0) 1 Tryz.underlying115 hi1 hz01 hz11 .i64 .i64 _ _ 0 rfl rfl rfl rfl (by omega) (by decide) (Nat.le_refl _) ?_; intro w5 hown5 hg5; have HG5 := Lib.hid hg5; clear hown5 hg5)
    have hbm : Below w.heap.size w w5 := Below.grown hb0 HG5.out hb0.size (by simp)
    go_loopw [6] (fun k wr => k = .int .i64 0 ∧ Below w.heap.size w wr) (fun _ _ => 0)
    case atStart => exact ⟨rfl, hbm⟩
    case round =>
      obtain ⟨rfl, hb1⟩ := hrel
      go_wp2_with fail
      go_loopw [9] (fun k wr => k = .int .i64 0 ∧ Below w.heap.size w wr) (fun _ _ => 0)
      case atStart => exact ⟨rfl, hb1⟩
      case round =>
        obtain ⟨rfl, hb2⟩ := hrel
        go_wp2_with fail
        go_loopw [11] (fun k wr => k = .int .i64 0 ∧ Below w.heap.size w wr) (fun _ _ => 0)
        case atStart => exact ⟨rfl, hb2⟩
        case round =>
          obtain ⟨rfl, hb3⟩ := hrel
          go_wp2_with fail
          go_loopw [14] (fun k wr => k = .int .i64 0 ∧ Below w.heap.size w wr) (fun _ _ => 0)
          case atStart => exact ⟨rfl, hb3⟩
          case round =>
            obtain ⟨rfl, hb4⟩ := hrel
            go_wp2_with fail
            go_ret
            exact ⟨rfl, hb4⟩

theorem info_Bytes : (Tryz.prog.info? 96).map (fun i => (i.zero, i.size, i.bytes)) = some (some (.slice none 0 0), 1, 24) := by kernel_rfl
set_option maxRecDepth 100000 in
set_option maxHeartbeats 1000000 in
theorem FlatNil_Bytes (w : World) : Calls Tryz.prog 107 #[.slice none 0 0] w fun e w' => e = .returned (.bool true) ∧ Below w.heap.size w w' := by
  obtain ⟨i1, hi1, hz01, hz11, hz21⟩ := info_parts info_Bytes
  go_enter Tryz.func107, Tryz.ntmps107
  go_wp2_with fail
  go_loopw [3] (fun k wr => k = .int .i64 0 ∧ Below w.heap.size w wr) (fun _ _ => 0)
  case atStart => exact ⟨rfl, Below.refl _ _⟩
  case round =>
    obtain ⟨rfl, hb0⟩ := hrel
    go_wp2_with (refine wpList_make_full _ rfl _ _ 116 rfl wr.heap.size 96 i1 (.slice none 0 0) 1 Tryz.underlying116 hi1 hz01 hz11 .i64 .i64 _ _ 0 rfl rfl rfl rfl (by omega) (by decide) (Nat.le_refl _) ?_; intro w5 hown5 hg5; have HG5 := Lib.hid hg5; clear hown5 hg5)
    have hbm : Below w.heap.size w w5 := Below.grown hb0 HG5.out hb0.size (by simp)
    go_loopw [6] (fun k wr => k = .int .i64 0 ∧ Below w.heap.size w wr) (fun _ _ => 0)
    case atStart => exact ⟨rfl, hbm⟩
    case round =>
      obtain ⟨rfl, hb1⟩ := hrel
      go_wp2_with fail
      go_loopw [9] (fun k wr => k = .int .i64 0 ∧ Below w.heap.size w wr) (fun _ _ => 0)
      case atStart => exact ⟨rfl, hb1⟩
      case round =>
        obtain ⟨rfl, hb2⟩ := hrel
        go_wp2_with fail
        go_loopw [11] (fun k wr => k = .int .i64 0 ∧ Below w.heap.size w wr) (fun _ _ => 0)
        case atStart => exact ⟨rfl, hb2⟩
        case round =>
          obtain ⟨rfl, hb3⟩ := hrel
          go_wp2_with fail
          go_loopw [14] (fun k wr => k = .int .i64 0 ∧ Below w.heap.size w wr) (fun _ _ => 0)
          case atStart => exact ⟨rfl, hb3⟩
          case round =>
            obtain ⟨rfl, hb4⟩ := hrel
            go_wp2_with fail
            go_ret
            exact ⟨rfl, hb4⟩

theorem info_Reals : (Tryz.prog.info? 222).map (fun i => (i.zero, i.size, i.bytes)) = some (some (.slice none 0 0), 1, 24) := by kernel_rfl
set_option maxRecDepth 100000 in
set_option maxHeartbeats 1000000 in
theorem FlatNil_Reals (w : World) : Calls Tryz.prog 108 #[.slice none 0 0] w fun e w' => e = .returned (.bool true) ∧ Below w.heap.size w w' := by
  obtain ⟨i1, hi1, hz01, hz11, hz21⟩ := info_parts info_Reals
  go_enter Tryz.func108, Tryz.ntmps108
  go_wp2_with fail
  go_loopw [3] (fun k wr => k = .int .i64 0 ∧ Below w.heap.size w wr) (fun _ _ => 0)
  case atStart => exact ⟨rfl, Below.refl _ _⟩
  case round =>
    obtain ⟨rfl, hb0⟩ := hrel
    go_wp2_with (refine wpList_make_full _ rfl _ _ 117 rfl wr.heap.size 222 i1 (.slice none 0 0) 1 Tryz.underlying117 hi1 hz01 hz11 .i64 .i64 _ _ 0 rfl rfl rfl rfl (by omega) (by decide) (Nat.le_refl _) ?_; intro w5 hown5 hg5; have HG5 := Lib.hid hg5; clear hown5 hg5)
    have hbm : Below w.heap.size w w5 := Below.grown hb0 HG5.out hb0.size (by simp)
    go_loopw [6] (fun k wr => k = .int .i64 0 ∧ Below w.heap.size w wr) (fun _ _ => 0)
    case atStart => exact ⟨rfl, hbm⟩
    case round =>
      obtain ⟨rfl, hb1⟩ := hrel
      go_wp2_with fail
      go_loopw [9] (fun k wr => k = .int .i64 0 ∧ Below w.heap.size w wr) (fun _ _ => 0)
      case atStart => exact ⟨rfl, hb1⟩
      case round =>
        obtain ⟨rfl, hb2⟩ := hrel
        go_wp2_with fail
        go_loopw [11] (fun k wr => k = .int .i64 0 ∧ Below w.heap.size w wr) (fun _ _ => 0)
        case atStart => exact ⟨rfl, hb2⟩
        case round =>
          obtain ⟨rfl, hb3⟩ := hrel
          go_wp2_with fail
          go_loopw [14] (fun k wr => k = .int .i64 0 ∧ Below w.heap.size w wr) (fun _ _ => 0)
          case atStart => exact ⟨rfl, hb3⟩
          case round =>
            obtain ⟨rfl, hb4⟩ := hrel
            go_wp2_with fail
            go_ret
            exact ⟨rfl, hb4⟩

theorem info_Fates : (Tryz.prog.info? 224).map (fun i => (i.zero, i.size, i.bytes)) = some (some (.slice none 0 0), 1, 24) := by kernel_rfl
set_option maxRecDepth 100000 in
set_option maxHeartbeats 1000000 in
theorem FlatNil_Fates (w : World) : Calls Tryz.prog 109 #[.slice none 0 0] w fun e w' => e = .returned (.bool true) ∧ Below w.heap.size w w' := by
  obtain ⟨i1, hi1, hz01, hz11, hz21⟩ := info_parts info_Fates
  go_enter Tryz.func109, Tryz.ntmps109
  go_wp2_with fail
  go_loopw [3] (fun k wr => k = .int .i64 0 ∧ Below w.heap.size w wr) (fun _ _ => 0)
  case atStart => exact ⟨rfl, Below.refl _ _⟩
  case round =>
    obtain ⟨rfl, hb0⟩ := hrel
    go_wp2_with (refine wpList_make_full _ rfl _ _ 118 rfl wr.heap.size 224 i1 (.slice none 0 0) 1 Tryz.underlying118 hi1 hz01 hz11 .i64 .i64 _ _ 0 rfl rfl rfl rfl (by omega) (by decide) (Nat.le_refl _) ?_; intro w5 hown5 hg5; have HG5 := Lib.hid hg5; clear hown5 hg5)
    have hbm : Below w.heap.size w w5 := Below.grown hb0 HG5.out hb0.size (by simp)
    go_loopw [6] (fun k wr => k = .int .i64 0 ∧ Below w.heap.size w wr) (fun _ _ => 0)
    case atStart => exact ⟨rfl, hbm⟩
    case round =>
      obtain ⟨rfl, hb1⟩ := hrel
      go_wp2_with fail
      go_loopw [9] (fun k wr => k = .int .i64 0 ∧ Below w.heap.size w wr) (fun _ _ => 0)
      case atStart => exact ⟨rfl, hb1⟩
      case round =>
        obtain ⟨rfl, hb2⟩ := hrel
        go_wp2_with fail
        go_loopw [11] (fun k wr => k = .int .i64 0 ∧ Below w.heap.size w wr) (fun _ _ => 0)
        case atStart => exact ⟨rfl, hb2⟩
        case round =>
          obtain ⟨rfl, hb3⟩ := hrel
          go_wp2_with fail
          go_loopw [14] (fun k wr => k = .int .i64 0 ∧ Below w.heap.size w wr) (fun _ _ => 0)
          case atStart => exact ⟨rfl, hb3⟩
          case round =>
            obtain ⟨rfl, hb4⟩ := hrel
            go_wp2_with fail
            go_ret
            exact ⟨rfl, hb4⟩

theorem info_Spans : (Tryz.prog.info? 229).map (fun i => (i.zero, i.size, i.bytes)) = some (some (.slice none 0 0), 1, 24) := by kernel_rfl
set_option maxRecDepth 100000 in
set_option maxHeartbeats 1000000 in
theorem FlatNil_Spans (w : World) : Calls Tryz.prog 110 #[.slice none 0 0] w fun e w' => e = .returned (.bool true) ∧ Below w.heap.size w w' := by
  obtain ⟨i1, hi1, hz01, hz11, hz21⟩ := info_parts info_Spans
  go_enter Tryz.func110, Tryz.ntmps110
  go_wp2_with fail
  go_loopw [3] (fun k wr => k = .int .i64 0 ∧ Below w.heap.size w wr) (fun _ _ => 0)
  case atStart => exact ⟨rfl, Below.refl _ _⟩
  case round =>
    obtain ⟨rfl, hb0⟩ := hrel
    go_wp2_with (refine wpList_make_full _ rfl _ _ 119 rfl wr.heap.size 229 i1 (.slice none 0 0) 1 Tryz.underlying119 hi1 hz01 hz11 .i64 .i64 _ _ 0 rfl rfl rfl rfl (by omega) (by decide) (Nat.le_refl _) ?_; intro w5 hown5 hg5; have HG5 := Lib.hid hg5; clear hown5 hg5)
    have hbm : Below w.heap.size w w5 := Below.grown hb0 HG5.out hb0.size (by simp)
    go_loopw [6] (fun k wr => k = .int .i64 0 ∧ Below w.heap.size w wr) (fun _ _ => 0)
    case atStart => exact ⟨rfl, hbm⟩
    case round =>
      obtain ⟨rfl, hb1⟩ := hrel
      go_wp2_with fail
      go_loopw [9] (fun k wr => k = .int .i64 0 ∧ Below w.heap.size w wr) (fun _ _ => 0)
      case atStart => exact ⟨rfl, hb1⟩
      case round =>
        obtain ⟨rfl, hb2⟩ := hrel
        go_wp2_with fail
        go_loopw [11] (fun k wr => k = .int .i64 0 ∧ Below w.heap.size w wr) (fun _ _ => 0)
        case atStart => exact ⟨rfl, hb2⟩
        case round =>
          obtain ⟨rfl, hb3⟩ := hrel
          go_wp2_with fail
          go_loopw [14] (fun k wr => k = .int .i64 0 ∧ Below w.heap.size w wr) (fun _ _ => 0)
          case atStart => exact ⟨rfl, hb3⟩
          case round =>
            obtain ⟨rfl, hb4⟩ := hrel
            go_wp2_with fail
            go_ret
            exact ⟨rfl, hb4⟩

theorem info_Frames : (Tryz.prog.info? 233).map (fun i => (i.zero, i.size, i.bytes)) = some (some (.slice none 0 0), 1, 24) := by kernel_rfl
set_option maxRecDepth 100000 in
set_option maxHeartbeats 1000000 in
theorem FlatNil_Frames (w : World) : Calls Tryz.prog 111 #[.slice none 0 0] w fun e w' => e = .returned (.bool true) ∧ Below w.heap.size w w' := by
  obtain ⟨i1, hi1, hz01, hz11, hz21⟩ := info_parts info_Frames
  go_enter Tryz.func111, Tryz.ntmps111
  go_wp2_with fail
  go_loopw [3] (fun k wr => k = .int .i64 0 ∧ Below w.heap.size w wr) (fun _ _ => 0)
  case atStart => exact ⟨rfl, Below.refl _ _⟩
  case round =>
    obtain ⟨rfl, hb0⟩ := hrel
    go_wp2_with (refine wpList_make_full _ rfl _ _ 120 rfl wr.heap.size 233 i1 (.slice none 0 0) 1 Tryz.underlying120 hi1 hz01 hz11 .i64 .i64 _ _ 0 rfl rfl rfl rfl (by omega) (by decide) (Nat.le_refl _) ?_; intro w5 hown5 hg5; have HG5 := Lib.hid hg5; clear hown5 hg5)
    have hbm : Below w.heap.size w w5 := Below.grown hb0 HG5.out hb0.size (by simp)
    go_loopw [6] (fun k wr => k = .int .i64 0 ∧ Below w.heap.size w wr) (fun _ _ => 0)
    case atStart => exact ⟨rfl, hbm⟩
    case round =>
      obtain ⟨rfl, hb1⟩ := hrel
      go_wp2_with fail
      go_loopw [9] (fun k wr => k = .int .i64 0 ∧ Below w.heap.size w wr) (fun _ _ => 0)
      case atStart => exact ⟨rfl, hb1⟩
      case round =>
        obtain ⟨rfl, hb2⟩ := hrel
        go_wp2_with fail
        go_loopw [11] (fun k wr => k = .int .i64 0 ∧ Below w.heap.size w wr) (fun _ _ => 0)
        case atStart => exact ⟨rfl, hb2⟩
        case round =>
          obtain ⟨rfl, hb3⟩ := hrel
          go_wp2_with fail
          go_loopw [14] (fun k wr => k = .int .i64 0 ∧ Below w.heap.size w wr) (fun _ _ => 0)
          case atStart => exact ⟨rfl, hb3⟩
          case round =>
            obtain ⟨rfl, hb4⟩ := hrel
            go_wp2_with fail
            go_ret
            exact ⟨rfl, hb4⟩

theorem info_Cabins : (Tryz.prog.info? 238).map (fun i => (i.zero, i.size, i.bytes)) = some (some (.slice none 0 0), 1, 24) := by kernel_rfl
set_option maxRecDepth 100000 in
set_option maxHeartbeats 1000000 in
theorem FlatNil_Cabins (w : World) : Calls Tryz.prog 112 #[.slice none 0 0] w fun e w' => e = .returned (.bool true) ∧ Below w.heap.size w w' := by
  obtain ⟨i1, hi1, hz01, hz11, hz21⟩ := info_parts info_Cabins
  go_enter Tryz.func112, Tryz.ntmps112
  go_wp2_with fail
  go_loopw [3] (fun k wr => k = .int .i64 0 ∧ Below w.heap.size w wr) (fun _ _ => 0)
  case atStart => exact ⟨rfl, Below.refl _ _⟩
  case round =>
    obtain ⟨rfl, hb0⟩ := hrel
    go_wp2_with (refine wpList_make_full _ rfl _ _ 121 rfl wr.heap.size 238 i1 (.slice none 0 0) 1 Tryz.underlying121 hi1 hz01 hz11 .i64 .i64 _ _ 0 rfl rfl rfl rfl (by omega) (by decide) (Nat.le_refl _) ?_; intro w5 hown5 hg5; have HG5 := Lib.hid hg5; clear hown5 hg5)
    have hbm : Below w.heap.size w w5 := Below.grown hb0 HG5.out hb0.size (by simp)
    go_loopw [6] (fun k wr => k = .int .i64 0 ∧ Below w.heap.size w wr) (fun _ _ => 0)
    case atStart => exact ⟨rfl, hbm⟩
    case round =>
      obtain ⟨rfl, hb1⟩ := hrel
      go_wp2_with fail
      go_loopw [9] (fun k wr => k = .int .i64 0 ∧ Below w.heap.size w wr) (fun _ _ => 0)
      case atStart => exact ⟨rfl, hb1⟩
      case round =>
        obtain ⟨rfl, hb2⟩ := hrel
        go_wp2_with fail
        go_loopw [11] (fun k wr => k = .int .i64 0 ∧ Below w.heap.size w wr) (fun _ _ => 0)
        case atStart => exact ⟨rfl, hb2⟩
        case round =>
          obtain ⟨rfl, hb3⟩ := hrel
          go_wp2_with fail
          go_loopw [14] (fun k wr => k = .int .i64 0 ∧ Below w.heap.size w wr) (fun _ _ => 0)
          case atStart => exact ⟨rfl, hb3⟩
          case round =>
            obtain ⟨rfl, hb4⟩ := hrel
            go_wp2_with fail
            go_ret
            exact ⟨rfl, hb4⟩

theorem info_Records : (Tryz.prog.info? 240).map (fun i => (i.zero, i.size, i.bytes)) = some (some (.slice none 0 0), 1, 24) := by kernel_rfl
set_option maxRecDepth 100000 in
set_option maxHeartbeats 1000000 in
theorem FlatNil_Records (w : World) : Calls Tryz.prog 113 #[.slice none 0 0] w fun e w' => e = .returned (.bool true) ∧ Below w.heap.size w w' := by
  obtain ⟨i1, hi1, hz01, hz11, hz21⟩ := info_parts info_Records
  go_enter Tryz.func113, Tryz.ntmps113
  go_wp2_with fail
  go_loopw [3] (fun k wr => k = .int .i64 0 ∧ Below w.heap.size w wr) (fun _ _ => 0)
  case atStart => exact ⟨rfl, Below.refl _ _⟩
  case round =>
    obtain ⟨rfl, hb0⟩ := hrel
    go_wp2_with (refine wpList_make_full _ rfl _ _ 122 rfl wr.heap.size 240 i1 (.slice none 0 0) 1 Tryz.underlying122 hi1 hz01 hz11 .i64 .i64 _ _ 0 rfl rfl rfl rfl (by omega) (by decide) (Nat.le_refl _) ?_; intro w5 hown5 hg5; have HG5 := Lib.hid hg5; clear hown5 hg5)
    have hbm : Below w.heap.size w w5 := Below.grown hb0 HG5.out hb0.size (by simp)
    go_loopw [6] (fun k wr => k = .int .i64 0 ∧ Below w.heap.size w wr) (fun _ _ => 0)
    case atStart => exact ⟨rfl, hbm⟩
    case round =>
      obtain ⟨rfl, hb1⟩ := hrel
      go_wp2_with fail
      go_loopw [9] (fun k wr => k = .int .i64 0 ∧ Below w.heap.size w wr) (fun _ _ => 0)
      case atStart => exact ⟨rfl, hb1⟩
      case round =>
        obtain ⟨rfl, hb2⟩ := hrel
        go_wp2_with fail
        go_loopw [11] (fun k wr => k = .int .i64 0 ∧ Below w.heap.size w wr) (fun _ _ => 0)
        case atStart => exact ⟨rfl, hb2⟩
        case round =>
          obtain ⟨rfl, hb3⟩ := hrel
          go_wp2_with fail
          go_loopw [14] (fun k wr => k = .int .i64 0 ∧ Below w.heap.size w wr) (fun _ _ => 0)
          case atStart => exact ⟨rfl, hb3⟩
          case round =>
            obtain ⟨rfl, hb4⟩ := hrel
            go_wp2_with fail
            go_ret
            exact ⟨rfl, hb4⟩

theorem info_Bookings : (Tryz.prog.info? 27).map (fun i => (i.zero, i.size, i.bytes)) = some (some (.slice none 0 0), 1, 24) := by kernel_rfl
set_option maxRecDepth 100000 in
set_option maxHeartbeats 1000000 in
theorem FlatNil_Bookings (w : World) : Calls Tryz.prog 114 #[.slice none 0 0] w fun e w' => e = .returned (.bool true) ∧ Below w.heap.size w w' := by
  obtain ⟨i1, hi1, hz01, hz11, hz21⟩ := info_parts info_Bookings
  go_enter Tryz.func114, Tryz.ntmps114
  go_wp2_with fail
  go_loopw [3] (fun k wr => k = .int .i64 0 ∧ Below w.heap.size w wr) (fun _ _ => 0)
  case atStart => exact ⟨rfl, Below.refl _ _⟩
  case round =>
    obtain ⟨rfl, hb0⟩ := hrel
    go_wp2_with (refine wpList_make_full _ rfl _ _ 123 rfl wr.heap.size 27 i1 (.slice none 0 0) 1 Tryz.underlying123 hi1 hz01 hz11 .i64 .i64 _ _ 0 rfl rfl rfl rfl (by omega) (by decide) (Nat.le_refl _) ?_; intro w5 hown5 hg5; have HG5 := Lib.hid hg5; clear hown5 hg5)
    have hbm : Below w.heap.size w w5 := Below.grown hb0 HG5.out hb0.size (by simp)
    go_loopw [6] (fun k wr => k = .int .i64 0 ∧ Below w.heap.size w wr) (fun _ _ => 0)
    case atStart => exact ⟨rfl, hbm⟩
    case round =>
      obtain ⟨rfl, hb1⟩ := hrel
      go_wp2_with fail
      go_loopw [9] (fun k wr => k = .int .i64 0 ∧ Below w.heap.size w wr) (fun _ _ => 0)
      case atStart => exact ⟨rfl, hb1⟩
      case round =>
        obtain ⟨rfl, hb2⟩ := hrel
        go_wp2_with fail
        go_loopw [11] (fun k wr => k = .int .i64 0 ∧ Below w.heap.size w wr) (fun _ _ => 0)
        case atStart => exact ⟨rfl, hb2⟩
        case round =>
          obtain ⟨rfl, hb3⟩ := hrel
          go_wp2_with fail
          go_loopw [14] (fun k wr => k = .int .i64 0 ∧ Below w.heap.size w wr) (fun _ _ => 0)
          case atStart => exact ⟨rfl, hb3⟩
          case round =>
            obtain ⟨rfl, hb4⟩ := hrel
            go_wp2_with fail
            go_ret
            exact ⟨rfl, hb4⟩

theorem info_Requests : (Tryz.prog.info? 245).map (fun i => (i.zero, i.size, i.bytes)) = some (some (.slice none 0 0), 1, 24) := by kernel_rfl
set_option maxRecDepth 100000 in
set_option maxHeartbeats 1000000 in
theorem FlatNil_Requests (w : World) : Calls Tryz.prog 115 #[.slice none 0 0] w fun e w' => e = .returned (.bool true) ∧ Below w.heap.size w w' := by
  obtain ⟨i1, hi1, hz01, hz11, hz21⟩ := info_parts info_Requests
  go_enter Tryz.func115, Tryz.ntmps115
  go_wp2_with fail
  go_loopw [3] (fun k wr => k = .int .i64 0 ∧ Below w.heap.size w wr) (fun _ _ => 0)
  case atStart => exact ⟨rfl, Below.refl _ _⟩
  case round =>
    obtain ⟨rfl, hb0⟩ := hrel
    go_wp2_with (refine wpList_make_full _ rfl _ _ 124 rfl wr.heap.size 245 i1 (.slice none 0 0) 1 Tryz.underlying124 hi1 hz01 hz11 .i64 .i64 _ _ 0 rfl rfl rfl rfl (by omega) (by decide) (Nat.le_refl _) ?_; intro w5 hown5 hg5; have HG5 := Lib.hid hg5; clear hown5 hg5)
    have hbm : Below w.heap.size w w5 := Below.grown hb0 HG5.out hb0.size (by simp)
    go_loopw [6] (fun k wr => k = .int .i64 0 ∧ Below w.heap.size w wr) (fun _ _ => 0)
    case atStart => exact ⟨rfl, hbm⟩
    case round =>
      obtain ⟨rfl, hb1⟩ := hrel
      go_wp2_with fail
      go_loopw [9] (fun k wr => k = .int .i64 0 ∧ Below w.heap.size w wr) (fun _ _ => 0)
      case atStart => exact ⟨rfl, hb1⟩
      case round =>
        obtain ⟨rfl, hb2⟩ := hrel
        go_wp2_with fail
        go_loopw [11] (fun k wr => k = .int .i64 0 ∧ Below w.heap.size w wr) (fun _ _ => 0)
        case atStart => exact ⟨rfl, hb2⟩
        case round =>
          obtain ⟨rfl, hb3⟩ := hrel
          go_wp2_with fail
          go_loopw [14] (fun k wr => k = .int .i64 0 ∧ Below w.heap.size w wr) (fun _ _ => 0)
          case atStart => exact ⟨rfl, hb3⟩
          case round =>
            obtain ⟨rfl, hb4⟩ := hrel
            go_wp2_with fail
            go_ret
            exact ⟨rfl, hb4⟩

theorem info_Replies : (Tryz.prog.info? 250).map (fun i => (i.zero, i.size, i.bytes)) = some (some (.slice none 0 0), 1, 24) := by kernel_rfl
set_option maxRecDepth 100000 in
set_option maxHeartbeats 1000000 in
theorem FlatNil_Replies (w : World) : Calls Tryz.prog 116 #[.slice none 0 0] w fun e w' => e = .returned (.bool true) ∧ Below w.heap.size w w' := by
  obtain ⟨i1, hi1, hz01, hz11, hz21⟩ := info_parts info_Replies
  go_enter Tryz.func116, Tryz.ntmps116
  go_wp2_with fail
  go_loopw [3] (fun k wr => k = .int .i64 0 ∧ Below w.heap.size w wr) (fun _ _ => 0)
  case atStart => exact ⟨rfl, Below.refl _ _⟩
  case round =>
    obtain ⟨rfl, hb0⟩ := hrel
    go_wp2_with (refine wpList_make_full _ rfl _ _ 125 rfl wr.heap.size 250 i1 (.slice none 0 0) 1 Tryz.underlying125 hi1 hz01 hz11 .i64 .i64 _ _ 0 rfl rfl rfl rfl (by omega) (by decide) (Nat.le_refl _) ?_; intro w5 hown5 hg5; have HG5 := Lib.hid hg5; clear hown5 hg5)
    have hbm : Below w.heap.size w w5 := Below.grown hb0 HG5.out hb0.size (by simp)
    go_loopw [6] (fun k wr => k = .int .i64 0 ∧ Below w.heap.size w wr) (fun _ _ => 0)
    case atStart => exact ⟨rfl, hbm⟩
    case round =>
      obtain ⟨rfl, hb1⟩ := hrel
      go_wp2_with fail
      go_loopw [9] (fun k wr => k = .int .i64 0 ∧ Below w.heap.size w wr) (fun _ _ => 0)
      case atStart => exact ⟨rfl, hb1⟩
      case round =>
        obtain ⟨rfl, hb2⟩ := hrel
        go_wp2_with fail
        go_loopw [11] (fun k wr => k = .int .i64 0 ∧ Below w.heap.size w wr) (fun _ _ => 0)
        case atStart => exact ⟨rfl, hb2⟩
        case round =>
          obtain ⟨rfl, hb3⟩ := hrel
          go_wp2_with fail
          go_loopw [14] (fun k wr => k = .int .i64 0 ∧ Below w.heap.size w wr) (fun _ _ => 0)
          case atStart => exact ⟨rfl, hb3⟩
          case round =>
            obtain ⟨rfl, hb4⟩ := hrel
            go_wp2_with fail
            go_ret
            exact ⟨rfl, hb4⟩

theorem info_Fares : (Tryz.prog.info? 254).map (fun i => (i.zero, i.size, i.bytes)) = some (some (.slice none 0 0), 1, 24) := by kernel_rfl
set_option maxRecDepth 100000 in
set_option maxHeartbeats 1000000 in
theorem FlatNil_Fares (w : World) : Calls Tryz.prog 117 #[.slice none 0 0] w fun e w' => e = .returned (.bool true) ∧ Below w.heap.size w w' := by
  obtain ⟨i1, hi1, hz01, hz11, hz21⟩ := info_parts info_Fares
  go_enter Tryz.func117, Tryz.ntmps117
  go_wp2_with fail
  go_loopw [3] (fun k wr => k = .int .i64 0 ∧ Below w.heap.size w wr) (fun _ _ => 0)
  case atStart => exact ⟨rfl, Below.refl _ _⟩
  case round =>
    obtain ⟨rfl, hb0⟩ := hrel
    go_wp2_with (refine wpList_make_full _ rfl _ _ 126 rfl wr.heap.size 254 i1 (.slice none 0 0) 1 Tryz.underlying126 hi1 hz01 hz11 .i64 .i64 _ _ 0 rfl rfl rfl rfl (by omega) (by decide) (Nat.le_refl _) ?_; intro w5 hown5 hg5; have HG5 := Lib.hid hg5; clear hown5 hg5)
    have hbm : Below w.heap.size w w5 := Below.grown hb0 HG5.out hb0.size (by simp)
    go_loopw [6] (fun k wr => k = .int .i64 0 ∧ Below w.heap.size w wr) (fun _ _ => 0)
    case atStart => exact ⟨rfl, hbm⟩
    case round =>
      obtain ⟨rfl, hb1⟩ := hrel
      go_wp2_with fail
      go_loopw [9] (fun k wr => k = .int .i64 0 ∧ Below w.heap.size w wr) (fun _ _ => 0)
      case atStart => exact ⟨rfl, hb1⟩
      case round =>
        obtain ⟨rfl, hb2⟩ := hrel
        go_wp2_with fail
        go_loopw [11] (fun k wr => k = .int .i64 0 ∧ Below w.heap.size w wr) (fun _ _ => 0)
        case atStart => exact ⟨rfl, hb2⟩
        case round =>
          obtain ⟨rfl, hb3⟩ := hrel
          go_wp2_with fail
          go_loopw [14] (fun k wr => k = .int .i64 0 ∧ Below w.heap.size w wr) (fun _ _ => 0)
          case atStart => exact ⟨rfl, hb3⟩
          case round =>
            obtain ⟨rfl, hb4⟩ := hrel
            go_wp2_with fail
            go_ret
            exact ⟨rfl, hb4⟩

theorem info_Waits : (Tryz.prog.info? 259).map (fun i => (i.zero, i.size, i.bytes)) = some (some (.slice none 0 0), 1, 24) := by kernel_rfl
set_option maxRecDepth 100000 in
set_option maxHeartbeats 1000000 in
theorem FlatNil_Waits (w : World) : Calls Tryz.prog 118 #[.slice none 0 0] w fun e w' => e = .returned (.bool true) ∧ Below w.heap.size w w' := by
  obtain ⟨i1, hi1, hz01, hz11, hz21⟩ := info_parts info_Waits
  go_enter Tryz.func118, Tryz.ntmps118
  go_wp2_with fail
  go_loopw [3] (fun k wr => k = .int .i64 0 ∧ Below w.heap.size w wr) (fun _ _ => 0)
  case atStart => exact ⟨rfl, Below.refl _ _⟩
  case round =>
    obtain ⟨rfl, hb0⟩ := hrel
    go_wp2_with (refine wpList_make_full _ rfl _ _ 127 rfl wr.heap.size 259 i1 (.slice none 0 0) 1 Tryz.underlying127 hi1 hz01 hz11 .i64 .i64 _ _ 0 rfl rfl rfl rfl (by omega) (by decide) (Nat.le_refl _) ?_; intro w5 hown5 hg5; have HG5 := Lib.hid hg5; clear hown5 hg5)
    have hbm : Below w.heap.size w w5 := Below.grown hb0 HG5.out hb0.size (by simp)
    go_loopw [6] (fun k wr => k = .int .i64 0 ∧ Below w.heap.size w wr) (fun _ _ => 0)
    case atStart => exact ⟨rfl, hbm⟩
    case round =>
      obtain ⟨rfl, hb1⟩ := hrel
      go_wp2_with fail
      go_loopw [9] (fun k wr => k = .int .i64 0 ∧ Below w.heap.size w wr) (fun _ _ => 0)
      case atStart => exact ⟨rfl, hb1⟩
      case round =>
        obtain ⟨rfl, hb2⟩ := hrel
        go_wp2_with fail
        go_loopw [11] (fun k wr => k = .int .i64 0 ∧ Below w.heap.size w wr) (fun _ _ => 0)
        case atStart => exact ⟨rfl, hb2⟩
        case round =>
          obtain ⟨rfl, hb3⟩ := hrel
          go_wp2_with fail
          go_loopw [14] (fun k wr => k = .int .i64 0 ∧ Below w.heap.size w wr) (fun _ _ => 0)
          case atStart => exact ⟨rfl, hb3⟩
          case round =>
            obtain ⟨rfl, hb4⟩ := hrel
            go_wp2_with fail
            go_ret
            exact ⟨rfl, hb4⟩

theorem info_Turns : (Tryz.prog.info? 263).map (fun i => (i.zero, i.size, i.bytes)) = some (some (.slice none 0 0), 1, 24) := by kernel_rfl
set_option maxRecDepth 100000 in
set_option maxHeartbeats 1000000 in
theorem FlatNil_Turns (w : World) : Calls Tryz.prog 120 #[.slice none 0 0] w fun e w' => e = .returned (.bool true) ∧ Below w.heap.size w w' := by
  obtain ⟨i1, hi1, hz01, hz11, hz21⟩ := info_parts info_Turns
  go_enter Tryz.func120, Tryz.ntmps120
  go_wp2_with fail
  go_loopw [3] (fun k wr => k = .int .i64 0 ∧ Below w.heap.size w wr) (fun _ _ => 0)
  case atStart => exact ⟨rfl, Below.refl _ _⟩
  case round =>
    obtain ⟨rfl, hb0⟩ := hrel
    go_wp2_with (refine wpList_make_full _ rfl _ _ 128 rfl wr.heap.size 263 i1 (.slice none 0 0) 1 Tryz.underlying128 hi1 hz01 hz11 .i64 .i64 _ _ 0 rfl rfl rfl rfl (by omega) (by decide) (Nat.le_refl _) ?_; intro w5 hown5 hg5; have HG5 := Lib.hid hg5; clear hown5 hg5)
    have hbm : Below w.heap.size w w5 := Below.grown hb0 HG5.out hb0.size (by simp)
    go_loopw [6] (fun k wr => k = .int .i64 0 ∧ Below w.heap.size w wr) (fun _ _ => 0)
    case atStart => exact ⟨rfl, hbm⟩
    case round =>
      obtain ⟨rfl, hb1⟩ := hrel
      go_wp2_with fail
      go_loopw [9] (fun k wr => k = .int .i64 0 ∧ Below w.heap.size w wr) (fun _ _ => 0)
      case atStart => exact ⟨rfl, hb1⟩
      case round =>
        obtain ⟨rfl, hb2⟩ := hrel
        go_wp2_with fail
        go_loopw [11] (fun k wr => k = .int .i64 0 ∧ Below w.heap.size w wr) (fun _ _ => 0)
        case atStart => exact ⟨rfl, hb2⟩
        case round =>
          obtain ⟨rfl, hb3⟩ := hrel
          go_wp2_with fail
          go_loopw [14] (fun k wr => k = .int .i64 0 ∧ Below w.heap.size w wr) (fun _ _ => 0)
          case atStart => exact ⟨rfl, hb3⟩
          case round =>
            obtain ⟨rfl, hb4⟩ := hrel
            go_wp2_with fail
            go_ret
            exact ⟨rfl, hb4⟩

theorem info_Commands : (Tryz.prog.info? 267).map (fun i => (i.zero, i.size, i.bytes)) = some (some (.slice none 0 0), 1, 24) := by kernel_rfl
set_option maxRecDepth 100000 in
set_option maxHeartbeats 1000000 in
theorem FlatNil_Commands (w : World) : Calls Tryz.prog 121 #[.slice none 0 0] w fun e w' => e = .returned (.bool true) ∧ Below w.heap.size w w' := by
  obtain ⟨i1, hi1, hz01, hz11, hz21⟩ := info_parts info_Commands
  go_enter Tryz.func121, Tryz.ntmps121
  go_wp2_with fail
  go_loopw [3] (fun k wr => k = .int .i64 0 ∧ Below w.heap.size w wr) (fun _ _ => 0)
  case atStart => exact ⟨rfl, Below.refl _ _⟩
  case round =>
    obtain ⟨rfl, hb0⟩ := hrel
    go_wp2_with (refine wpList_make_full _ rfl _ _ 129 rfl wr.heap.size 267 i1 (.slice none 0 0) 1 Tryz.underlying129 hi1 hz01 hz11 .i64 .i64 _ _ 0 rfl rfl rfl rfl (by omega) (by decide) (Nat.le_refl _) ?_; intro w5 hown5 hg5; have HG5 := Lib.hid hg5; clear hown5 hg5)
    have hbm : Below w.heap.size w w5 := Below.grown hb0 HG5.out hb0.size (by simp)
    go_loopw [6] (fun k wr => k = .int .i64 0 ∧ Below w.heap.size w wr) (fun _ _ => 0)
    case atStart => exact ⟨rfl, hbm⟩
    case round =>
      obtain ⟨rfl, hb1⟩ := hrel
      go_wp2_with fail
      go_loopw [9] (fun k wr => k = .int .i64 0 ∧ Below w.heap.size w wr) (fun _ _ => 0)
      case atStart => exact ⟨rfl, hb1⟩
      case round =>
        obtain ⟨rfl, hb2⟩ := hrel
        go_wp2_with fail
        go_loopw [11] (fun k wr => k = .int .i64 0 ∧ Below w.heap.size w wr) (fun _ _ => 0)
        case atStart => exact ⟨rfl, hb2⟩
        case round =>
          obtain ⟨rfl, hb3⟩ := hrel
          go_wp2_with fail
          go_loopw [14] (fun k wr => k = .int .i64 0 ∧ Below w.heap.size w wr) (fun _ _ => 0)
          case atStart => exact ⟨rfl, hb3⟩
          case round =>
            obtain ⟨rfl, hb4⟩ := hrel
            go_wp2_with fail
            go_ret
            exact ⟨rfl, hb4⟩

end Go.Proofs.YtpoijhjjbmaedaaGreatDoor.Fl
