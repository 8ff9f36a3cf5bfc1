/- The bag's other lists: there are none. -/
import Derived.Test.YtablpncipkbfhaaDoorKit6
import Derived.OwnWalk
import Derived.Test.YtablpncipkbfhaaDoorProg
namespace Go.Proofs.YtablpncipkbfhaaDoor.Cab
open Go.RowKit

theorem info_Limbs : (Tryd.prog.info? 125).map (fun i => (i.zero, i.size, i.bytes)) = some (some (.slice none 0 0), 1, 24) := by kernel_rfl
set_option maxRecDepth 100000 in
set_option maxHeartbeats 1000000 in
theorem FlatNil_Limbs (w : World) : Calls Tryd.prog 55 #[.slice none 0 0] w fun e w' => e = .returned (.bool true) ∧ Below w.heap.size w w' := by
  obtain ⟨i1, hi1, hz01, hz11, hz21⟩ := info_parts info_Limbs
  go_enter Tryd.func55, Tryd.ntmps55
  go_wp2_with fail
  go_loopw [3] (fun k wr => k = .int .i64 0 ∧ Below w.heap.size w wr) (fun _ _ => 0)
  case atStart => exact ⟨rfl, Below.refl _ _⟩
  case round =>
    obtain ⟨rfl, hb0⟩ := hrel
    go_wp2_with (refine wpList_make_full _ rfl _ _ 77 rfl wr.heap.size 125 i1 (.slice none 0 0) 1 Tryd.underlying77 hi1 hz01 hz11 .i64 .i64 _ _ 0 rfl rfl rfl rfl (by omega) (by decide) (Nat.le_refl _) ?_; intro w5 hown5 hg5; have HG5 := Lib.hid hg5; clear hown5 hg5)
    have hbm : Below w.heap.size w w5 := Below.grown hb0 HG5.out hb0.size (by simp)
    go_loopw [6] (fun k wr => k = .int .i64 0 ∧ Below w.heap.size w wr) (fun _ _ => 0)
    case atStart => exact ⟨rfl, hbm⟩
    case round =>
      obtain ⟨rfl, hb1⟩ := hrel
      go_wp2_with fail
      go_loopw [9] (fun k wr => k = .int .i64 0 ∧ Below w.heap.size w wr) (fun _ _ => 0)
      case atStart => exact ⟨rfl, hb1⟩
      case round =>
        obtain ⟨rfl, hb2⟩ := hrel
        go_wp2_with fail
        go_loopw [11] (fun k wr => k = .int .i64 0 ∧ Below w.heap.size w wr) (fun _ _ => 0)
        case atStart => exact ⟨rfl, hb2⟩
        case round =>
          obtain ⟨rfl, hb3⟩ := hrel
          go_wp2_with fail
          go_loopw [14] (fun k wr => k = .int .i64 0 ∧ Below w.heap.size w wr) (fun _ _ => 0)
          case atStart => exact ⟨rfl, hb3⟩
          case round =>
            obtain ⟨rfl, hb4⟩ := hrel
            go_wp2_with fail
            go_ret
            exact ⟨rfl, hb4⟩

theorem info_Ints : (Tryd.prog.info? 22).map (fun i => (i.zero, i.size, i.bytes)) = some (some (.slice none 0 0), 1, 24) := by kernel_rfl
set_option maxRecDepth 100000 in
set_option maxHeartbeats 1000000 in
theorem FlatNil_Ints (w : World) : Calls Tryd.prog 56 #[.slice none 0 0] w fun e w' => e = .returned (.bool true) ∧ Below w.heap.size w w' := by
  obtain ⟨i1, hi1, hz01, hz11, hz21⟩ := info_parts info_Ints
  go_enter Tryd.func56, Tryd.ntmps56
  go_wp2_with fail
  go_loopw [3] (fun k wr => k = .int .i64 0 ∧ Below w.heap.size w wr) (fun _ _ => 0)
  case atStart => exact ⟨rfl, Below.refl _ _⟩
  case round =>
    obtain ⟨rfl, hb0⟩ := hrel
    go_wp2_with (refine wpList_make_full _ rfl _ _ 78 rfl wr.heap.size 22 i1 (.slice none 0 0) 1 Tryd.underlying78 hi1 hz01 hz11 .i64 .i64 _ _ 0 rfl rfl rfl rfl (by omega) (by decide) (Nat.le_refl _) ?_; intro w5 hown5 hg5; have HG5 := Lib.hid hg5; clear hown5 hg5)
    have hbm : Below w.heap.size w w5 := Below.grown hb0 HG5.out hb0.size (by simp)
    go_loopw [6] (fun k wr => k = .int .i64 0 ∧ Below w.heap.size w wr) (fun _ _ => 0)
    case atStart => exact ⟨rfl, hbm⟩
    case round =>
      obtain ⟨rfl, hb1⟩ := hrel
      go_wp2_with fail
      go_loopw [9] (fun k wr => k = .int .i64 0 ∧ Below w.heap.size w wr) (fun _ _ => 0)
      case atStart => exact ⟨rfl, hb1⟩
      case round =>
        obtain ⟨rfl, hb2⟩ := hrel
        go_wp2_with fail
        go_loopw [11] (fun k wr => k = .int .i64 0 ∧ Below w.heap.size w wr) (fun _ _ => 0)
        case atStart => exact ⟨rfl, hb2⟩
        case round =>
          obtain ⟨rfl, hb3⟩ := hrel
          go_wp2_with fail
          go_loopw [14] (fun k wr => k = .int .i64 0 ∧ Below w.heap.size w wr) (fun _ _ => 0)
          case atStart => exact ⟨rfl, hb3⟩
          case round =>
            obtain ⟨rfl, hb4⟩ := hrel
            go_wp2_with fail
            go_ret
            exact ⟨rfl, hb4⟩

theorem info_Longs : (Tryd.prog.info? 127).map (fun i => (i.zero, i.size, i.bytes)) = some (some (.slice none 0 0), 1, 24) := by kernel_rfl
set_option maxRecDepth 100000 in
set_option maxHeartbeats 1000000 in
theorem FlatNil_Longs (w : World) : Calls Tryd.prog 57 #[.slice none 0 0] w fun e w' => e = .returned (.bool true) ∧ Below w.heap.size w w' := by
  obtain ⟨i1, hi1, hz01, hz11, hz21⟩ := info_parts info_Longs
  go_enter Tryd.func57, Tryd.ntmps57
  go_wp2_with fail
  go_loopw [3] (fun k wr => k = .int .i64 0 ∧ Below w.heap.size w wr) (fun _ _ => 0)
  case atStart => exact ⟨rfl, Below.refl _ _⟩
  case round =>
    obtain ⟨rfl, hb0⟩ := hrel
    go_wp2_with (refine wpList_make_full _ rfl _ _ 79 rfl wr.heap.size 127 i1 (.slice none 0 0) 1 Tryd.underlying79 hi1 hz01 hz11 .i64 .i64 _ _ 0 rfl rfl rfl rfl (by omega) (by decide) (Nat.le_refl _) ?_; intro w5 hown5 hg5; have HG5 := Lib.hid hg5; clear hown5 hg5)
    have hbm : Below w.heap.size w w5 := Below.grown hb0 HG5.out hb0.size (by simp)
    go_loopw [6] (fun k wr => k = .int .i64 0 ∧ Below w.heap.size w wr) (fun _ _ => 0)
    case atStart => exact ⟨rfl, hbm⟩
    case round =>
      obtain ⟨rfl, hb1⟩ := hrel
      go_wp2_with fail
      go_loopw [9] (fun k wr => k = .int .i64 0 ∧ Below w.heap.size w wr) (fun _ _ => 0)
      case atStart => exact ⟨rfl, hb1⟩
      case round =>
        obtain ⟨rfl, hb2⟩ := hrel
        go_wp2_with fail
        go_loopw [11] (fun k wr => k = .int .i64 0 ∧ Below w.heap.size w wr) (fun _ _ => 0)
        case atStart => exact ⟨rfl, hb2⟩
        case round =>
          obtain ⟨rfl, hb3⟩ := hrel
          go_wp2_with fail
          go_loopw [14] (fun k wr => k = .int .i64 0 ∧ Below w.heap.size w wr) (fun _ _ => 0)
          case atStart => exact ⟨rfl, hb3⟩
          case round =>
            obtain ⟨rfl, hb4⟩ := hrel
            go_wp2_with fail
            go_ret
            exact ⟨rfl, hb4⟩

theorem info_Texts : (Tryd.prog.info? 128).map (fun i => (i.zero, i.size, i.bytes)) = some (some (.slice none 0 0), 1, 24) := by kernel_rfl
set_option maxRecDepth 100000 in
set_option maxHeartbeats 1000000 in
theorem FlatNil_Texts (w : World) : Calls Tryd.prog 58 #[.slice none 0 0] w fun e w' => e = .returned (.bool true) ∧ Below w.heap.size w w' := by
  obtain ⟨i1, hi1, hz01, hz11, hz21⟩ := info_parts info_Texts
  go_enter Tryd.func58, Tryd.ntmps58
  go_wp2_with fail
  go_loopw [3] (fun k wr => k = .int .i64 0 ∧ Below w.heap.size w wr) (fun _ _ => 0)
  case atStart => exact ⟨rfl, Below.refl _ _⟩
  case round =>
    obtain ⟨rfl, hb0⟩ := hrel
    go_wp2_with (refine wpList_make_full _ rfl _ _ 80 rfl wr.heap.size 128 i1 (.slice none 0 0) 1 Tryd.underlying80 hi1 hz01 hz11 .i64 .i64 _ _ 0 rfl rfl rfl rfl (by omega) (by decide) (Nat.le_refl _) ?_; intro w5 hown5 hg5; have HG5 := Lib.hid hg5; clear hown5 hg5)
    have hbm : Below w.heap.size w w5 := Below.grown hb0 HG5.out hb0.size (by simp)
    go_loopw [6] (fun k wr => k = .int .i64 0 ∧ Below w.heap.size w wr) (fun _ _ => 0)
    case atStart => exact ⟨rfl, hbm⟩
    case round =>
      obtain ⟨rfl, hb1⟩ := hrel
      go_wp2_with fail
      go_loopw [9] (fun k wr => k = .int .i64 0 ∧ Below w.heap.size w wr) (fun _ _ => 0)
      case atStart => exact ⟨rfl, hb1⟩
      case round =>
        obtain ⟨rfl, hb2⟩ := hrel
        go_wp2_with fail
        go_loopw [11] (fun k wr => k = .int .i64 0 ∧ Below w.heap.size w wr) (fun _ _ => 0)
        case atStart => exact ⟨rfl, hb2⟩
        case round =>
          obtain ⟨rfl, hb3⟩ := hrel
          go_wp2_with fail
          go_loopw [14] (fun k wr => k = .int .i64 0 ∧ Below w.heap.size w wr) (fun _ _ => 0)
          case atStart => exact ⟨rfl, hb3⟩
          case round =>
            obtain ⟨rfl, hb4⟩ := hrel
            go_wp2_with fail
            go_ret
            exact ⟨rfl, hb4⟩

theorem info_Bytes : (Tryd.prog.info? 99).map (fun i => (i.zero, i.size, i.bytes)) = some (some (.slice none 0 0), 1, 24) := by kernel_rfl
set_option maxRecDepth 100000 in
set_option maxHeartbeats 1000000 in
theorem FlatNil_Bytes (w : World) : Calls Tryd.prog 59 #[.slice none 0 0] w fun e w' => e = .returned (.bool true) ∧ Below w.heap.size w w' := by
  obtain ⟨i1, hi1, hz01, hz11, hz21⟩ := info_parts info_Bytes
  go_enter Tryd.func59, Tryd.ntmps59
  go_wp2_with fail
  go_loopw [3] (fun k wr => k = .int .i64 0 ∧ Below w.heap.size w wr) (fun _ _ => 0)
  case atStart => exact ⟨rfl, Below.refl _ _⟩
  case round =>
    obtain ⟨rfl, hb0⟩ := hrel
    go_wp2_with (refine wpList_make_full _ rfl _ _ 81 rfl wr.heap.size 99 i1 (.slice none 0 0) 1 Tryd.underlying81 hi1 hz01 hz11 .i64 .i64 _ _ 0 rfl rfl rfl rfl (by omega) (by decide) (Nat.le_refl _) ?_; intro w5 hown5 hg5; have HG5 := Lib.hid hg5; clear hown5 hg5)
    have hbm : Below w.heap.size w w5 := Below.grown hb0 HG5.out hb0.size (by simp)
    go_loopw [6] (fun k wr => k = .int .i64 0 ∧ Below w.heap.size w wr) (fun _ _ => 0)
    case atStart => exact ⟨rfl, hbm⟩
    case round =>
      obtain ⟨rfl, hb1⟩ := hrel
      go_wp2_with fail
      go_loopw [9] (fun k wr => k = .int .i64 0 ∧ Below w.heap.size w wr) (fun _ _ => 0)
      case atStart => exact ⟨rfl, hb1⟩
      case round =>
        obtain ⟨rfl, hb2⟩ := hrel
        go_wp2_with fail
        go_loopw [11] (fun k wr => k = .int .i64 0 ∧ Below w.heap.size w wr) (fun _ _ => 0)
        case atStart => exact ⟨rfl, hb2⟩
        case round =>
          obtain ⟨rfl, hb3⟩ := hrel
          go_wp2_with fail
          go_loopw [14] (fun k wr => k = .int .i64 0 ∧ Below w.heap.size w wr) (fun _ _ => 0)
          case atStart => exact ⟨rfl, hb3⟩
          case round =>
            obtain ⟨rfl, hb4⟩ := hrel
            go_wp2_with fail
            go_ret
            exact ⟨rfl, hb4⟩

theorem info_Reals : (Tryd.prog.info? 131).map (fun i => (i.zero, i.size, i.bytes)) = some (some (.slice none 0 0), 1, 24) := by kernel_rfl
set_option maxRecDepth 100000 in
set_option maxHeartbeats 1000000 in
theorem FlatNil_Reals (w : World) : Calls Tryd.prog 60 #[.slice none 0 0] w fun e w' => e = .returned (.bool true) ∧ Below w.heap.size w w' := by
  obtain ⟨i1, hi1, hz01, hz11, hz21⟩ := info_parts info_Reals
  go_enter Tryd.func60, Tryd.ntmps60
  go_wp2_with fail
  go_loopw [3] (fun k wr => k = .int .i64 0 ∧ Below w.heap.size w wr) (fun _ _ => 0)
  case atStart => exact ⟨rfl, Below.refl _ _⟩
  case round =>
    obtain ⟨rfl, hb0⟩ := hrel
    go_wp2_with (refine wpList_make_full _ rfl _ _ 82 rfl wr.heap.size 131 i1 (.slice none 0 0) 1 Tryd.underlying82 hi1 hz01 hz11 .i64 .i64 _ _ 0 rfl rfl rfl rfl (by omega) (by decide) (Nat.le_refl _) ?_; intro w5 hown5 hg5; have HG5 := Lib.hid hg5; clear hown5 hg5)
    have hbm : Below w.heap.size w w5 := Below.grown hb0 HG5.out hb0.size (by simp)
    go_loopw [6] (fun k wr => k = .int .i64 0 ∧ Below w.heap.size w wr) (fun _ _ => 0)
    case atStart => exact ⟨rfl, hbm⟩
    case round =>
      obtain ⟨rfl, hb1⟩ := hrel
      go_wp2_with fail
      go_loopw [9] (fun k wr => k = .int .i64 0 ∧ Below w.heap.size w wr) (fun _ _ => 0)
      case atStart => exact ⟨rfl, hb1⟩
      case round =>
        obtain ⟨rfl, hb2⟩ := hrel
        go_wp2_with fail
        go_loopw [11] (fun k wr => k = .int .i64 0 ∧ Below w.heap.size w wr) (fun _ _ => 0)
        case atStart => exact ⟨rfl, hb2⟩
        case round =>
          obtain ⟨rfl, hb3⟩ := hrel
          go_wp2_with fail
          go_loopw [14] (fun k wr => k = .int .i64 0 ∧ Below w.heap.size w wr) (fun _ _ => 0)
          case atStart => exact ⟨rfl, hb3⟩
          case round =>
            obtain ⟨rfl, hb4⟩ := hrel
            go_wp2_with fail
            go_ret
            exact ⟨rfl, hb4⟩

theorem info_Fates : (Tryd.prog.info? 133).map (fun i => (i.zero, i.size, i.bytes)) = some (some (.slice none 0 0), 1, 24) := by kernel_rfl
set_option maxRecDepth 100000 in
set_option maxHeartbeats 1000000 in
theorem FlatNil_Fates (w : World) : Calls Tryd.prog 61 #[.slice none 0 0] w fun e w' => e = .returned (.bool true) ∧ Below w.heap.size w w' := by
  obtain ⟨i1, hi1, hz01, hz11, hz21⟩ := info_parts info_Fates
  go_enter Tryd.func61, Tryd.ntmps61
  go_wp2_with fail
  go_loopw [3] (fun k wr => k = .int .i64 0 ∧ Below w.heap.size w wr) (fun _ _ => 0)
  case atStart => exact ⟨rfl, Below.refl _ _⟩
  case round =>
    obtain ⟨rfl, hb0⟩ := hrel
    go_wp2_with (refine wpList_make_full _ rfl _ _ 83 rfl wr.heap.size 133 i1 (.slice none 0 0) 1 Tryd.underlying83 hi1 hz01 hz11 .i64 .i64 _ _ 0 rfl rfl rfl rfl (by omega) (by decide) (Nat.le_refl _) ?_; intro w5 hown5 hg5; have HG5 := Lib.hid hg5; clear hown5 hg5)
    have hbm : Below w.heap.size w w5 := Below.grown hb0 HG5.out hb0.size (by simp)
    go_loopw [6] (fun k wr => k = .int .i64 0 ∧ Below w.heap.size w wr) (fun _ _ => 0)
    case atStart => exact ⟨rfl, hbm⟩
    case round =>
      obtain ⟨rfl, hb1⟩ := hrel
      go_wp2_with fail
      go_loopw [9] (fun k wr => k = .int .i64 0 ∧ Below w.heap.size w wr) (fun _ _ => 0)
      case atStart => exact ⟨rfl, hb1⟩
      case round =>
        obtain ⟨rfl, hb2⟩ := hrel
        go_wp2_with fail
        go_loopw [11] (fun k wr => k = .int .i64 0 ∧ Below w.heap.size w wr) (fun _ _ => 0)
        case atStart => exact ⟨rfl, hb2⟩
        case round =>
          obtain ⟨rfl, hb3⟩ := hrel
          go_wp2_with fail
          go_loopw [14] (fun k wr => k = .int .i64 0 ∧ Below w.heap.size w wr) (fun _ _ => 0)
          case atStart => exact ⟨rfl, hb3⟩
          case round =>
            obtain ⟨rfl, hb4⟩ := hrel
            go_wp2_with fail
            go_ret
            exact ⟨rfl, hb4⟩

theorem info_Frames : (Tryd.prog.info? 139).map (fun i => (i.zero, i.size, i.bytes)) = some (some (.slice none 0 0), 1, 24) := by kernel_rfl
set_option maxRecDepth 100000 in
set_option maxHeartbeats 1000000 in
theorem FlatNil_Frames (w : World) : Calls Tryd.prog 63 #[.slice none 0 0] w fun e w' => e = .returned (.bool true) ∧ Below w.heap.size w w' := by
  obtain ⟨i1, hi1, hz01, hz11, hz21⟩ := info_parts info_Frames
  go_enter Tryd.func63, Tryd.ntmps63
  go_wp2_with fail
  go_loopw [3] (fun k wr => k = .int .i64 0 ∧ Below w.heap.size w wr) (fun _ _ => 0)
  case atStart => exact ⟨rfl, Below.refl _ _⟩
  case round =>
    obtain ⟨rfl, hb0⟩ := hrel
    go_wp2_with (refine wpList_make_full _ rfl _ _ 84 rfl wr.heap.size 139 i1 (.slice none 0 0) 1 Tryd.underlying84 hi1 hz01 hz11 .i64 .i64 _ _ 0 rfl rfl rfl rfl (by omega) (by decide) (Nat.le_refl _) ?_; intro w5 hown5 hg5; have HG5 := Lib.hid hg5; clear hown5 hg5)
    have hbm : Below w.heap.size w w5 := Below.grown hb0 HG5.out hb0.size (by simp)
    go_loopw [6] (fun k wr => k = .int .i64 0 ∧ Below w.heap.size w wr) (fun _ _ => 0)
    case atStart => exact ⟨rfl, hbm⟩
    case round =>
      obtain ⟨rfl, hb1⟩ := hrel
      go_wp2_with fail
      go_loopw [9] (fun k wr => k = .int .i64 0 ∧ Below w.heap.size w wr) (fun _ _ => 0)
      case atStart => exact ⟨rfl, hb1⟩
      case round =>
        obtain ⟨rfl, hb2⟩ := hrel
        go_wp2_with fail
        go_loopw [11] (fun k wr => k = .int .i64 0 ∧ Below w.heap.size w wr) (fun _ _ => 0)
        case atStart => exact ⟨rfl, hb2⟩
        case round =>
          obtain ⟨rfl, hb3⟩ := hrel
          go_wp2_with fail
          go_loopw [14] (fun k wr => k = .int .i64 0 ∧ Below w.heap.size w wr) (fun _ _ => 0)
          case atStart => exact ⟨rfl, hb3⟩
          case round =>
            obtain ⟨rfl, hb4⟩ := hrel
            go_wp2_with fail
            go_ret
            exact ⟨rfl, hb4⟩

theorem info_Cabins : (Tryd.prog.info? 144).map (fun i => (i.zero, i.size, i.bytes)) = some (some (.slice none 0 0), 1, 24) := by kernel_rfl
set_option maxRecDepth 100000 in
set_option maxHeartbeats 1000000 in
theorem FlatNil_Cabins (w : World) : Calls Tryd.prog 64 #[.slice none 0 0] w fun e w' => e = .returned (.bool true) ∧ Below w.heap.size w w' := by
  obtain ⟨i1, hi1, hz01, hz11, hz21⟩ := info_parts info_Cabins
  go_enter Tryd.func64, Tryd.ntmps64
  go_wp2_with fail
  go_loopw [3] (fun k wr => k = .int .i64 0 ∧ Below w.heap.size w wr) (fun _ _ => 0)
  case atStart => exact ⟨rfl, Below.refl _ _⟩
  case round =>
    obtain ⟨rfl, hb0⟩ := hrel
    go_wp2_with (refine wpList_make_full _ rfl _ _ 85 rfl wr.heap.size 144 i1 (.slice none 0 0) 1 Tryd.underlying85 hi1 hz01 hz11 .i64 .i64 _ _ 0 rfl rfl rfl rfl (by omega) (by decide) (Nat.le_refl _) ?_; intro w5 hown5 hg5; have HG5 := Lib.hid hg5; clear hown5 hg5)
    have hbm : Below w.heap.size w w5 := Below.grown hb0 HG5.out hb0.size (by simp)
    go_loopw [6] (fun k wr => k = .int .i64 0 ∧ Below w.heap.size w wr) (fun _ _ => 0)
    case atStart => exact ⟨rfl, hbm⟩
    case round =>
      obtain ⟨rfl, hb1⟩ := hrel
      go_wp2_with fail
      go_loopw [9] (fun k wr => k = .int .i64 0 ∧ Below w.heap.size w wr) (fun _ _ => 0)
      case atStart => exact ⟨rfl, hb1⟩
      case round =>
        obtain ⟨rfl, hb2⟩ := hrel
        go_wp2_with fail
        go_loopw [11] (fun k wr => k = .int .i64 0 ∧ Below w.heap.size w wr) (fun _ _ => 0)
        case atStart => exact ⟨rfl, hb2⟩
        case round =>
          obtain ⟨rfl, hb3⟩ := hrel
          go_wp2_with fail
          go_loopw [14] (fun k wr => k = .int .i64 0 ∧ Below w.heap.size w wr) (fun _ _ => 0)
          case atStart => exact ⟨rfl, hb3⟩
          case round =>
            obtain ⟨rfl, hb4⟩ := hrel
            go_wp2_with fail
            go_ret
            exact ⟨rfl, hb4⟩

theorem info_Records : (Tryd.prog.info? 146).map (fun i => (i.zero, i.size, i.bytes)) = some (some (.slice none 0 0), 1, 24) := by kernel_rfl
set_option maxRecDepth 100000 in
set_option maxHeartbeats 1000000 in
theorem FlatNil_Records (w : World) : Calls Tryd.prog 65 #[.slice none 0 0] w fun e w' => e = .returned (.bool true) ∧ Below w.heap.size w w' := by
  obtain ⟨i1, hi1, hz01, hz11, hz21⟩ := info_parts info_Records
  go_enter Tryd.func65, Tryd.ntmps65
  go_wp2_with fail
  go_loopw [3] (fun k wr => k = .int .i64 0 ∧ Below w.heap.size w wr) (fun _ _ => 0)
  case atStart => exact ⟨rfl, Below.refl _ _⟩
  case round =>
    obtain ⟨rfl, hb0⟩ := hrel
    go_wp2_with (refine wpList_make_full _ rfl _ _ 86 rfl wr.heap.size 146 i1 (.slice none 0 0) 1 Tryd.underlying86 hi1 hz01 hz11 .i64 .i64 _ _ 0 rfl rfl rfl rfl (by omega) (by decide) (Nat.le_refl _) ?_; intro w5 hown5 hg5; have HG5 := Lib.hid hg5; clear hown5 hg5)
    have hbm : Below w.heap.size w w5 := Below.grown hb0 HG5.out hb0.size (by simp)
    go_loopw [6] (fun k wr => k = .int .i64 0 ∧ Below w.heap.size w wr) (fun _ _ => 0)
    case atStart => exact ⟨rfl, hbm⟩
    case round =>
      obtain ⟨rfl, hb1⟩ := hrel
      go_wp2_with fail
      go_loopw [9] (fun k wr => k = .int .i64 0 ∧ Below w.heap.size w wr) (fun _ _ => 0)
      case atStart => exact ⟨rfl, hb1⟩
      case round =>
        obtain ⟨rfl, hb2⟩ := hrel
        go_wp2_with fail
        go_loopw [11] (fun k wr => k = .int .i64 0 ∧ Below w.heap.size w wr) (fun _ _ => 0)
        case atStart => exact ⟨rfl, hb2⟩
        case round =>
          obtain ⟨rfl, hb3⟩ := hrel
          go_wp2_with fail
          go_loopw [14] (fun k wr => k = .int .i64 0 ∧ Below w.heap.size w wr) (fun _ _ => 0)
          case atStart => exact ⟨rfl, hb3⟩
          case round =>
            obtain ⟨rfl, hb4⟩ := hrel
            go_wp2_with fail
            go_ret
            exact ⟨rfl, hb4⟩

theorem info_Bookings : (Tryd.prog.info? 152).map (fun i => (i.zero, i.size, i.bytes)) = some (some (.slice none 0 0), 1, 24) := by kernel_rfl
set_option maxRecDepth 100000 in
set_option maxHeartbeats 1000000 in
theorem FlatNil_Bookings (w : World) : Calls Tryd.prog 66 #[.slice none 0 0] w fun e w' => e = .returned (.bool true) ∧ Below w.heap.size w w' := by
  obtain ⟨i1, hi1, hz01, hz11, hz21⟩ := info_parts info_Bookings
  go_enter Tryd.func66, Tryd.ntmps66
  go_wp2_with fail
  go_loopw [3] (fun k wr => k = .int .i64 0 ∧ Below w.heap.size w wr) (fun _ _ => 0)
  case atStart => exact ⟨rfl, Below.refl _ _⟩
  case round =>
    obtain ⟨rfl, hb0⟩ := hrel
    go_wp2_with (refine wpList_make_full _ rfl _ _ 87 rfl wr.heap.size 152 i1 (.slice none 0 0) 1 Tryd.underlying87 hi1 hz01 hz11 .i64 .i64 _ _ 0 rfl rfl rfl rfl (by omega) (by decide) (Nat.le_refl _) ?_; intro w5 hown5 hg5; have HG5 := Lib.hid hg5; clear hown5 hg5)
    have hbm : Below w.heap.size w w5 := Below.grown hb0 HG5.out hb0.size (by simp)
    go_loopw [6] (fun k wr => k = .int .i64 0 ∧ Below w.heap.size w wr) (fun _ _ => 0)
    case atStart => exact ⟨rfl, hbm⟩
    case round =>
      obtain ⟨rfl, hb1⟩ := hrel
      go_wp2_with fail
      go_loopw [9] (fun k wr => k = .int .i64 0 ∧ Below w.heap.size w wr) (fun _ _ => 0)
      case atStart => exact ⟨rfl, hb1⟩
      case round =>
        obtain ⟨rfl, hb2⟩ := hrel
        go_wp2_with fail
        go_loopw [11] (fun k wr => k = .int .i64 0 ∧ Below w.heap.size w wr) (fun _ _ => 0)
        case atStart => exact ⟨rfl, hb2⟩
        case round =>
          obtain ⟨rfl, hb3⟩ := hrel
          go_wp2_with fail
          go_loopw [14] (fun k wr => k = .int .i64 0 ∧ Below w.heap.size w wr) (fun _ _ => 0)
          case atStart => exact ⟨rfl, hb3⟩
          case round =>
            obtain ⟨rfl, hb4⟩ := hrel
            go_wp2_with fail
            go_ret
            exact ⟨rfl, hb4⟩

theorem info_Requests : (Tryd.prog.info? 156).map (fun i => (i.zero, i.size, i.bytes)) = some (some (.slice none 0 0), 1, 24) := by kernel_rfl
set_option maxRecDepth 100000 in
set_option maxHeartbeats 1000000 in
theorem FlatNil_Requests (w : World) : Calls Tryd.prog 67 #[.slice none 0 0] w fun e w' => e = .returned (.bool true) ∧ Below w.heap.size w w' := by
  obtain ⟨i1, hi1, hz01, hz11, hz21⟩ := info_parts info_Requests
  go_enter Tryd.func67, Tryd.ntmps67
  go_wp2_with fail
  go_loopw [3] (fun k wr => k = .int .i64 0 ∧ Below w.heap.size w wr) (fun _ _ => 0)
  case atStart => exact ⟨rfl, Below.refl _ _⟩
  case round =>
    obtain ⟨rfl, hb0⟩ := hrel
    go_wp2_with (refine wpList_make_full _ rfl _ _ 88 rfl wr.heap.size 156 i1 (.slice none 0 0) 1 Tryd.underlying88 hi1 hz01 hz11 .i64 .i64 _ _ 0 rfl rfl rfl rfl (by omega) (by decide) (Nat.le_refl _) ?_; intro w5 hown5 hg5; have HG5 := Lib.hid hg5; clear hown5 hg5)
    have hbm : Below w.heap.size w w5 := Below.grown hb0 HG5.out hb0.size (by simp)
    go_loopw [6] (fun k wr => k = .int .i64 0 ∧ Below w.heap.size w wr) (fun _ _ => 0)
    case atStart => exact ⟨rfl, hbm⟩
    case round =>
      obtain ⟨rfl, hb1⟩ := hrel
      go_wp2_with fail
      go_loopw [9] (fun k wr => k = .int .i64 0 ∧ Below w.heap.size w wr) (fun _ _ => 0)
      case atStart => exact ⟨rfl, hb1⟩
      case round =>
        obtain ⟨rfl, hb2⟩ := hrel
        go_wp2_with fail
        go_loopw [11] (fun k wr => k = .int .i64 0 ∧ Below w.heap.size w wr) (fun _ _ => 0)
        case atStart => exact ⟨rfl, hb2⟩
        case round =>
          obtain ⟨rfl, hb3⟩ := hrel
          go_wp2_with fail
          go_loopw [14] (fun k wr => k = .int .i64 0 ∧ Below w.heap.size w wr) (fun _ _ => 0)
          case atStart => exact ⟨rfl, hb3⟩
          case round =>
            obtain ⟨rfl, hb4⟩ := hrel
            go_wp2_with fail
            go_ret
            exact ⟨rfl, hb4⟩

theorem info_Replies : (Tryd.prog.info? 161).map (fun i => (i.zero, i.size, i.bytes)) = some (some (.slice none 0 0), 1, 24) := by kernel_rfl
set_option maxRecDepth 100000 in
set_option maxHeartbeats 1000000 in
theorem FlatNil_Replies (w : World) : Calls Tryd.prog 68 #[.slice none 0 0] w fun e w' => e = .returned (.bool true) ∧ Below w.heap.size w w' := by
  obtain ⟨i1, hi1, hz01, hz11, hz21⟩ := info_parts info_Replies
  go_enter Tryd.func68, Tryd.ntmps68
  go_wp2_with fail
  go_loopw [3] (fun k wr => k = .int .i64 0 ∧ Below w.heap.size w wr) (fun _ _ => 0)
  case atStart => exact ⟨rfl, Below.refl _ _⟩
  case round =>
    obtain ⟨rfl, hb0⟩ := hrel
    go_wp2_with (refine wpList_make_full _ rfl _ _ 89 rfl wr.heap.size 161 i1 (.slice none 0 0) 1 Tryd.underlying89 hi1 hz01 hz11 .i64 .i64 _ _ 0 rfl rfl rfl rfl (by omega) (by decide) (Nat.le_refl _) ?_; intro w5 hown5 hg5; have HG5 := Lib.hid hg5; clear hown5 hg5)
    have hbm : Below w.heap.size w w5 := Below.grown hb0 HG5.out hb0.size (by simp)
    go_loopw [6] (fun k wr => k = .int .i64 0 ∧ Below w.heap.size w wr) (fun _ _ => 0)
    case atStart => exact ⟨rfl, hbm⟩
    case round =>
      obtain ⟨rfl, hb1⟩ := hrel
      go_wp2_with fail
      go_loopw [9] (fun k wr => k = .int .i64 0 ∧ Below w.heap.size w wr) (fun _ _ => 0)
      case atStart => exact ⟨rfl, hb1⟩
      case round =>
        obtain ⟨rfl, hb2⟩ := hrel
        go_wp2_with fail
        go_loopw [11] (fun k wr => k = .int .i64 0 ∧ Below w.heap.size w wr) (fun _ _ => 0)
        case atStart => exact ⟨rfl, hb2⟩
        case round =>
          obtain ⟨rfl, hb3⟩ := hrel
          go_wp2_with fail
          go_loopw [14] (fun k wr => k = .int .i64 0 ∧ Below w.heap.size w wr) (fun _ _ => 0)
          case atStart => exact ⟨rfl, hb3⟩
          case round =>
            obtain ⟨rfl, hb4⟩ := hrel
            go_wp2_with fail
            go_ret
            exact ⟨rfl, hb4⟩

theorem info_Fares : (Tryd.prog.info? 165).map (fun i => (i.zero, i.size, i.bytes)) = some (some (.slice none 0 0), 1, 24) := by kernel_rfl
set_option maxRecDepth 100000 in
set_option maxHeartbeats 1000000 in
theorem FlatNil_Fares (w : World) : Calls Tryd.prog 69 #[.slice none 0 0] w fun e w' => e = .returned (.bool true) ∧ Below w.heap.size w w' := by
  obtain ⟨i1, hi1, hz01, hz11, hz21⟩ := info_parts info_Fares
  go_enter Tryd.func69, Tryd.ntmps69
  go_wp2_with fail
  go_loopw [3] (fun k wr => k = .int .i64 0 ∧ Below w.heap.size w wr) (fun _ _ => 0)
  case atStart => exact ⟨rfl, Below.refl _ _⟩
  case round =>
    obtain ⟨rfl, hb0⟩ := hrel
    go_wp2_with (refine wpList_make_full _ rfl _ _ 90 rfl wr.heap.size 165 i1 (.slice none 0 0) 1 Tryd.underlying90 hi1 hz01 hz11 .i64 .i64 _ _ 0 rfl rfl rfl rfl (by omega) (by decide) (Nat.le_refl _) ?_; intro w5 hown5 hg5; have HG5 := Lib.hid hg5; clear hown5 hg5)
    have hbm : Below w.heap.size w w5 := Below.grown hb0 HG5.out hb0.size (by simp)
    go_loopw [6] (fun k wr => k = .int .i64 0 ∧ Below w.heap.size w wr) (fun _ _ => 0)
    case atStart => exact ⟨rfl, hbm⟩
    case round =>
      obtain ⟨rfl, hb1⟩ := hrel
      go_wp2_with fail
      go_loopw [9] (fun k wr => k = .int .i64 0 ∧ Below w.heap.size w wr) (fun _ _ => 0)
      case atStart => exact ⟨rfl, hb1⟩
      case round =>
        obtain ⟨rfl, hb2⟩ := hrel
        go_wp2_with fail
        go_loopw [11] (fun k wr => k = .int .i64 0 ∧ Below w.heap.size w wr) (fun _ _ => 0)
        case atStart => exact ⟨rfl, hb2⟩
        case round =>
          obtain ⟨rfl, hb3⟩ := hrel
          go_wp2_with fail
          go_loopw [14] (fun k wr => k = .int .i64 0 ∧ Below w.heap.size w wr) (fun _ _ => 0)
          case atStart => exact ⟨rfl, hb3⟩
          case round =>
            obtain ⟨rfl, hb4⟩ := hrel
            go_wp2_with fail
            go_ret
            exact ⟨rfl, hb4⟩

theorem info_Waits : (Tryd.prog.info? 170).map (fun i => (i.zero, i.size, i.bytes)) = some (some (.slice none 0 0), 1, 24) := by kernel_rfl
set_option maxRecDepth 100000 in
set_option maxHeartbeats 1000000 in
theorem FlatNil_Waits (w : World) : Calls Tryd.prog 70 #[.slice none 0 0] w fun e w' => e = .returned (.bool true) ∧ Below w.heap.size w w' := by
  obtain ⟨i1, hi1, hz01, hz11, hz21⟩ := info_parts info_Waits
  go_enter Tryd.func70, Tryd.ntmps70
  go_wp2_with fail
  go_loopw [3] (fun k wr => k = .int .i64 0 ∧ Below w.heap.size w wr) (fun _ _ => 0)
  case atStart => exact ⟨rfl, Below.refl _ _⟩
  case round =>
    obtain ⟨rfl, hb0⟩ := hrel
    go_wp2_with (refine wpList_make_full _ rfl _ _ 91 rfl wr.heap.size 170 i1 (.slice none 0 0) 1 Tryd.underlying91 hi1 hz01 hz11 .i64 .i64 _ _ 0 rfl rfl rfl rfl (by omega) (by decide) (Nat.le_refl _) ?_; intro w5 hown5 hg5; have HG5 := Lib.hid hg5; clear hown5 hg5)
    have hbm : Below w.heap.size w w5 := Below.grown hb0 HG5.out hb0.size (by simp)
    go_loopw [6] (fun k wr => k = .int .i64 0 ∧ Below w.heap.size w wr) (fun _ _ => 0)
    case atStart => exact ⟨rfl, hbm⟩
    case round =>
      obtain ⟨rfl, hb1⟩ := hrel
      go_wp2_with fail
      go_loopw [9] (fun k wr => k = .int .i64 0 ∧ Below w.heap.size w wr) (fun _ _ => 0)
      case atStart => exact ⟨rfl, hb1⟩
      case round =>
        obtain ⟨rfl, hb2⟩ := hrel
        go_wp2_with fail
        go_loopw [11] (fun k wr => k = .int .i64 0 ∧ Below w.heap.size w wr) (fun _ _ => 0)
        case atStart => exact ⟨rfl, hb2⟩
        case round =>
          obtain ⟨rfl, hb3⟩ := hrel
          go_wp2_with fail
          go_loopw [14] (fun k wr => k = .int .i64 0 ∧ Below w.heap.size w wr) (fun _ _ => 0)
          case atStart => exact ⟨rfl, hb3⟩
          case round =>
            obtain ⟨rfl, hb4⟩ := hrel
            go_wp2_with fail
            go_ret
            exact ⟨rfl, hb4⟩

theorem info_Lines : (Tryd.prog.info? 174).map (fun i => (i.zero, i.size, i.bytes)) = some (some (.slice none 0 0), 1, 24) := by kernel_rfl
set_option maxRecDepth 100000 in
set_option maxHeartbeats 1000000 in
theorem FlatNil_Lines (w : World) : Calls Tryd.prog 71 #[.slice none 0 0] w fun e w' => e = .returned (.bool true) ∧ Below w.heap.size w w' := by
  obtain ⟨i1, hi1, hz01, hz11, hz21⟩ := info_parts info_Lines
  go_enter Tryd.func71, Tryd.ntmps71
  go_wp2_with fail
  go_loopw [3] (fun k wr => k = .int .i64 0 ∧ Below w.heap.size w wr) (fun _ _ => 0)
  case atStart => exact ⟨rfl, Below.refl _ _⟩
  case round =>
    obtain ⟨rfl, hb0⟩ := hrel
    go_wp2_with (refine wpList_make_full _ rfl _ _ 92 rfl wr.heap.size 174 i1 (.slice none 0 0) 1 Tryd.underlying92 hi1 hz01 hz11 .i64 .i64 _ _ 0 rfl rfl rfl rfl (by omega) (by decide) (Nat.le_refl _) ?_; intro w5 hown5 hg5; have HG5 := Lib.hid hg5; clear hown5 hg5)
    have hbm : Below w.heap.size w w5 := Below.grown hb0 HG5.out hb0.size (by simp)
    go_loopw [6] (fun k wr => k = .int .i64 0 ∧ Below w.heap.size w wr) (fun _ _ => 0)
    case atStart => exact ⟨rfl, hbm⟩
    case round =>
      obtain ⟨rfl, hb1⟩ := hrel
      go_wp2_with fail
      go_loopw [9] (fun k wr => k = .int .i64 0 ∧ Below w.heap.size w wr) (fun _ _ => 0)
      case atStart => exact ⟨rfl, hb1⟩
      case round =>
        obtain ⟨rfl, hb2⟩ := hrel
        go_wp2_with fail
        go_loopw [11] (fun k wr => k = .int .i64 0 ∧ Below w.heap.size w wr) (fun _ _ => 0)
        case atStart => exact ⟨rfl, hb2⟩
        case round =>
          obtain ⟨rfl, hb3⟩ := hrel
          go_wp2_with fail
          go_loopw [14] (fun k wr => k = .int .i64 0 ∧ Below w.heap.size w wr) (fun _ _ => 0)
          case atStart => exact ⟨rfl, hb3⟩
          case round =>
            obtain ⟨rfl, hb4⟩ := hrel
            go_wp2_with fail
            go_ret
            exact ⟨rfl, hb4⟩

theorem info_Turns : (Tryd.prog.info? 178).map (fun i => (i.zero, i.size, i.bytes)) = some (some (.slice none 0 0), 1, 24) := by kernel_rfl
set_option maxRecDepth 100000 in
set_option maxHeartbeats 1000000 in
theorem FlatNil_Turns (w : World) : Calls Tryd.prog 72 #[.slice none 0 0] w fun e w' => e = .returned (.bool true) ∧ Below w.heap.size w w' := by
  obtain ⟨i1, hi1, hz01, hz11, hz21⟩ := info_parts info_Turns
  go_enter Tryd.func72, Tryd.ntmps72
  go_wp2_with fail
  go_loopw [3] (fun k wr => k = .int .i64 0 ∧ Below w.heap.size w wr) (fun _ _ => 0)
  case atStart => exact ⟨rfl, Below.refl _ _⟩
  case round =>
    obtain ⟨rfl, hb0⟩ := hrel
    go_wp2_with (refine wpList_make_full _ rfl _ _ 93 rfl wr.heap.size 178 i1 (.slice none 0 0) 1 Tryd.underlying93 hi1 hz01 hz11 .i64 .i64 _ _ 0 rfl rfl rfl rfl (by omega) (by decide) (Nat.le_refl _) ?_; intro w5 hown5 hg5; have HG5 := Lib.hid hg5; clear hown5 hg5)
    have hbm : Below w.heap.size w w5 := Below.grown hb0 HG5.out hb0.size (by simp)
    go_loopw [6] (fun k wr => k = .int .i64 0 ∧ Below w.heap.size w wr) (fun _ _ => 0)
    case atStart => exact ⟨rfl, hbm⟩
    case round =>
      obtain ⟨rfl, hb1⟩ := hrel
      go_wp2_with fail
      go_loopw [9] (fun k wr => k = .int .i64 0 ∧ Below w.heap.size w wr) (fun _ _ => 0)
      case atStart => exact ⟨rfl, hb1⟩
      case round =>
        obtain ⟨rfl, hb2⟩ := hrel
        go_wp2_with fail
        go_loopw [11] (fun k wr => k = .int .i64 0 ∧ Below w.heap.size w wr) (fun _ _ => 0)
        case atStart => exact ⟨rfl, hb2⟩
        case round =>
          obtain ⟨rfl, hb3⟩ := hrel
          go_wp2_with fail
          go_loopw [14] (fun k wr => k = .int .i64 0 ∧ Below w.heap.size w wr) (fun _ _ => 0)
          case atStart => exact ⟨rfl, hb3⟩
          case round =>
            obtain ⟨rfl, hb4⟩ := hrel
            go_wp2_with fail
            go_ret
            exact ⟨rfl, hb4⟩

theorem info_Commands : (Tryd.prog.info? 182).map (fun i => (i.zero, i.size, i.bytes)) = some (some (.slice none 0 0), 1, 24) := by kernel_rfl
set_option maxRecDepth 100000 in
set_option maxHeartbeats 1000000 in
theorem FlatNil_Commands (w : World) : Calls Tryd.prog 73 #[.slice none 0 0] w fun e w' => e = .returned (.bool true) ∧ Below w.heap.size w w' := by
  obtain ⟨i1, hi1, hz01, hz11, hz21⟩ := info_parts info_Commands
  go_enter Tryd.func73, Tryd.ntmps73
  go_wp2_with fail
  go_loopw [3] (fun k wr => k = .int .i64 0 ∧ Below w.heap.size w wr) (fun _ _ => 0)
  case atStart => exact ⟨rfl, Below.refl _ _⟩
  case round =>
    obtain ⟨rfl, hb0⟩ := hrel
    go_wp2_with (refine wpList_make_full _ rfl _ _ 94 rfl wr.heap.size 182 i1 (.slice none 0 0) 1 Tryd.underlying94 hi1 hz01 hz11 .i64 .i64 _ _ 0 rfl rfl rfl rfl (by omega) (by decide) (Nat.le_refl _) ?_; intro w5 hown5 hg5; have HG5 := Lib.hid hg5; clear hown5 hg5)
    have hbm : Below w.heap.size w w5 := Below.grown hb0 HG5.out hb0.size (by simp)
    go_loopw [6] (fun k wr => k = .int .i64 0 ∧ Below w.heap.size w wr) (fun _ _ => 0)
    case atStart => exact ⟨rfl, hbm⟩
    case round =>
      obtain ⟨rfl, hb1⟩ := hrel
      go_wp2_with fail
      go_loopw [9] (fun k wr => k = .int .i64 0 ∧ Below w.heap.size w wr) (fun _ _ => 0)
      case atStart => exact ⟨rfl, hb1⟩
      case round =>
        obtain ⟨rfl, hb2⟩ := hrel
        go_wp2_with fail
        go_loopw [11] (fun k wr => k = .int .i64 0 ∧ Below w.heap.size w wr) (fun _ _ => 0)
        case atStart => exact ⟨rfl, hb2⟩
        case round =>
          obtain ⟨rfl, hb3⟩ := hrel
          go_wp2_with fail
          go_loopw [14] (fun k wr => k = .int .i64 0 ∧ Below w.heap.size w wr) (fun _ _ => 0)
          case atStart => exact ⟨rfl, hb3⟩
          case round =>
            obtain ⟨rfl, hb4⟩ := hrel
            go_wp2_with fail
            go_ret
            exact ⟨rfl, hb4⟩

end Go.Proofs.YtablpncipkbfhaaDoor.Cab
