/-
  All closed facts of the row.
-/
import Derived.Test.YtnonpemcndfbkaaGreatDoorFa
import Derived.Test.YtnonpemcndfbkaaGreatDoorFb
import Derived.Test.YtnonpemcndfbkaaGreatDoorFc
import Derived.Test.YtnonpemcndfbkaaGreatDoorFd
import Derived.Test.YtnonpemcndfbkaaGreatDoorFe
import Derived.Test.YtnonpemcndfbkaaGreatDoorFj
import Derived.Test.YtnonpemcndfbkaaGreatDoorFh
import Derived.KernelRfl
namespace Go.Proofs.YtnonpemcndfbkaaGreatDoor
open Go Go.Hb
theorem facts_ok : joinedFacts Tryz.prog 3 Tryz.f3 Rows.scriptNilSpec Rows.scriptNilRow = true := by
  unfold joinedFacts
  exact (aT (aT (aT (aT (aT (aT (aT (aT (aT (aT (aT (aT (aT (aT (aT (aT (aT (aT (aT (aT (aT (aT (aT (aT (aT (aT (aT (aT (aT (aT (aT fact0 fact1) fact2) fact3) fact4) fact5) fact6) fact7) fact8) fact9) fact10) fact11) fact12) fact13) fact14) fact15) fact16) fact17) fact18) fact19) fact20) fact21) fact22) fact23) fact24) fact25) fact26) fact27) (by kernel_rfl)) fact29) fact30) fact31)
end Go.Proofs.YtnonpemcndfbkaaGreatDoor
