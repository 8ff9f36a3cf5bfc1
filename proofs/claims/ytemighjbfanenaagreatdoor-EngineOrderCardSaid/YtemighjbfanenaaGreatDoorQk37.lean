import Derived.Test.YtemighjbfanenaaGreatDoorQk22
import Derived.Laws.AppendOwnNone
set_option linter.all false
set_option maxRecDepth 100000
set_option maxHeartbeats 16000000
namespace Go.Proofs.YtemighjbfanenaaGreatDoor
open RowKit
open Oc (Bs Cn mL aO bu uF e8 Nx)
section
namespace En
theorem BF(c:Nat→List Value)(n:Nat): ∀ m,flat c (n+m)=flat c n++flat (fun i=>c (n+i)) m
 | 0=>by simp[flat]
 | m+1=>by rw[←Nat.add_assoc,flat,BF c n m,flat,List.append_assoc]
