import Derived.Test.YtdikmnmnapimoaaGreatDoorFb
import Derived.Test.YtdikmnmnapimoaaGreatDoorFc
import Derived.Test.YtdikmnmnapimoaaGreatDoorFd
import Derived.Test.YtdikmnmnapimoaaGreatDoorFe
import Derived.Test.YtdikmnmnapimoaaGreatDoorFf
import Derived.Test.YtdikmnmnapimoaaGreatDoorFg
import Derived.Test.YtdikmnmnapimoaaGreatDoorFh
import Derived.Test.YtdikmnmnapimoaaGreatDoorFi
namespace Go.Proofs.YtdikmnmnapimoaaGreatDoor
open Go

theorem and_of {a b : Bool} (h1 : a = true) (h2 : b = true) : (a && b) = true := by rw [h1, h2]; rfl

set_option maxRecDepth 100000 in
theorem closed3 : joinedFacts Tryz.prog 3 Tryz.f3 Rows.benchNoneSpec Rows.benchNoneRow = true := by
  unfold joinedFacts
  repeat' (with_reducible apply and_of)
  · exact fact3_0
  · exact laid
  · exact fact3_2
  · exact fact3_3
  · exact fact3_4
  · exact fact3_5
  · exact fact3_6
  · exact fact3_7
  · exact fact3_8
  · exact fact3_9
  · exact fact3_10
  · exact fact3_11
  · exact fact3_12
  · exact fact3_13
  · exact fact3_14
  · exact fact3_15
  · exact fact3_16
  · exact fact3_17
  · exact fact3_18
  · exact fact3_19
  · exact fact3_20
  · exact fact3_21
  · exact fact3_22
  · exact fact3_23
  · exact fact3_24
  · exact fact3_25
  · exact fact3_26
  · exact fact3_27
  · exact fact3_28
  · exact fact3_29
  · exact fact3_30
  · exact fact3_31

end Go.Proofs.YtdikmnmnapimoaaGreatDoor
