import Derived.Test.YtemighjbfanenaaGreatDoorPk22
import Derived.Laws.AppendOwnNone
set_option linter.all false
set_option maxRecDepth 100000
set_option maxHeartbeats 16000000
namespace Go.Proofs.YtemighjbfanenaaGreatDoor
open RowKit
open Oc (Bs PF mG aP bu uJ eY NP)
section
namespace En
theorem uP(c:Nat→List Value)(n:Nat): ∀ m,flat c (n+m)=flat c n++flat (fun i=>c (n+i)) m
 | 0=>by simp[flat]
 | m+1=>by rw[←Nat.add_assoc,flat,uP c n m,flat,List.append_assoc]
