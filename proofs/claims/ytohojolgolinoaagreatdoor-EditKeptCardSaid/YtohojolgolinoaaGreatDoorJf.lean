/- EditKept: the given row and its card. No condition. -/
import Derived.Test.YtohojolgolinoaaGreatDoorLift
import Derived.Test.YtohojolgolinoaaGreatDoorCards
import Derived.Test.YtohojolgolinoaaGreatDoorTie
import Derived.OpenShut
import Derived.Stop.Joined
open List Go.Proofs.Tryz
namespace Go.Proofs.YtohojolgolinoaaGreatDoor
open Go.Sim Go.ChangeShapes Go.WideShapes Go.ChangeAt Go.RowKit

theorem ja:(Rows.editKeptRow.inPlace==Program.inPlace Tryz.pinned.checked.prog 3)=true:=by kernel_rfl
theorem jb:(Rows.editKeptRow.unfollowed==Program.unfollowed Tryz.pinned.checked.prog 3)=true:=by kernel_rfl
theorem jc:(Rows.editKeptRow.recurses==Program.recurses Tryz.pinned.checked.prog 3)=true:=by kernel_rfl
theorem jd:(Rows.editKeptRow.named==Program.varsNamed Tryz.pinned.checked.prog 3)=true:=by kernel_rfl
theorem je:laidOutB Tryz.pinned.checked.prog=true:=by kernel_rfl
theorem jf0:mapsRowed Tryz.pinned.checked.prog=true:=by kernel_rfl
theorem jf:joinedFacts Tryz.pinned.checked.prog 3 f3 Rows.editKeptSpec Rows.editKeptRow=true:=by unfold joinedFacts;rw[ja,jb,jc,jd,je,jf0];kernel_rfl

end Go.Proofs.YtohojolgolinoaaGreatDoor
