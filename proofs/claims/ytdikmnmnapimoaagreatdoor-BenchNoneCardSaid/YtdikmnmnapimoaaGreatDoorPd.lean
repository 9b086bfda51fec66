/-
BenchNone's tied card.
-/
import Derived.Test.YtdikmnmnapimoaaGreatDoorCards
import Derived.Test.YtdikmnmnapimoaaGreatDoorTiec
import Derived.Test.YtdikmnmnapimoaaGreatDoorPb
import Derived.Test.YtdikmnmnapimoaaGreatDoorPc
namespace Go.Proofs.YtdikmnmnapimoaaGreatDoor
open Go

theorem none_card : Rows.BenchNoneCardSaid :=
  Claim7.holds_tied_plain_at .later [] [.pinned, .data, .data, .data, .data] true (true, "063a68b82bd546cc57b7e125b1b9fcc554c8d8acbbf9f1c130dc724e4a1b025a") true
    none_holds (fun _ h => by cases h) none_wf (fun _ h => by cases h) none_row_tie rfl ⟨rfl, rfl⟩ none_main rfl none_hl none_goes

end Go.Proofs.YtdikmnmnapimoaaGreatDoor
