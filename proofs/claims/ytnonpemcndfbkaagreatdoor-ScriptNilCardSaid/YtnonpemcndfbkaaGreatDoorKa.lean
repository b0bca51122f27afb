/-
  The first heap of the runs; the functions without a body.
-/
import Derived.Test.YtnonpemcndfbkaaGreatDoorHc
import Derived.Test.YtnonpemcndfbkaaGreatDoorProg
import Derived.KernelRfl
namespace Go.Proofs.YtnonpemcndfbkaaGreatDoor
open Go Go.Hb
noncomputable section
set_option maxRecDepth 100000
def formsL : List AV := [(.str [110, 111, 112]), (.int .i64 (.ofNat 0)), (.str [105, 110, 116]), (.int .i64 (.ofNat 1)), (.str [115, 116, 114]), (.int .i64 (.ofNat 2)), (.str [116,
  114, 117, 101]), (.int .i64 (.ofNat 0)), (.str [102, 97, 108, 115, 101]), (.int .i64 (.ofNat 0)), (.str [110, 117, 108, 108]), (.int .i64 (.ofNat 0)), (.str [108, 111, 97, 100]),
  (.int .i64 (.ofNat 6)), (.str [115, 116, 111, 114, 101]), (.int .i64 (.ofNat 6)), (.str [112, 111, 112]), (.int .i64 (.ofNat 0)), (.str [100, 117, 112]), (.int .i64 (.ofNat 0)),
  (.str [97, 100, 100]), (.int .i64 (.ofNat 0)), (.str [115, 117, 98]), (.int .i64 (.ofNat 0)), (.str [109, 117, 108]), (.int .i64 (.ofNat 0)), (.str [100, 105, 118]), (.int .i64
  (.ofNat 0)), (.str [114, 101, 109]), (.int .i64 (.ofNat 0)), (.str [110, 101, 103]), (.int .i64 (.ofNat 0)), (.str [110, 111, 116]), (.int .i64 (.ofNat 0)), (.str [108, 116]),
  (.int .i64 (.ofNat 0)), (.str [108, 101]), (.int .i64 (.ofNat 0)), (.str [101, 113, 105]), (.int .i64 (.ofNat 0)), (.str [101, 113, 98]), (.int .i64 (.ofNat 0)), (.str [101, 113,
  114]), (.int .i64 (.ofNat 0)), (.str [106, 117, 109, 112]), (.int .i64 (.ofNat 7)), (.str [106, 117, 109, 112, 116]), (.int .i64 (.ofNat 7)), (.str [106, 117, 109, 112, 102]),
  (.int .i64 (.ofNat 7)), (.str [110, 101, 119]), (.int .i64 (.ofNat 3)), (.str [103, 101, 116, 102]), (.int .i64 (.ofNat 4)), (.str [112, 117, 116, 102]), (.int .i64 (.ofNat 4)),
  (.str [97, 114, 114]), (.int .i64 (.ofNat 3)), (.str [97, 108, 111, 97, 100]), (.int .i64 (.ofNat 0)), (.str [97, 115, 116, 111, 114, 101]), (.int .i64 (.ofNat 0)), (.str [97,
  108, 101, 110]), (.int .i64 (.ofNat 0)), (.str [99, 97, 108, 108]), (.int .i64 (.ofNat 5)), (.str [114, 101, 116]), (.int .i64 (.ofNat 0)), (.str [114, 101, 116, 118]), (.int
  .i64 (.ofNat 0)), (.str [116, 104, 114, 111, 119]), (.int .i64 (.ofNat 0)), (.str [101, 110, 116, 101, 114]), (.int .i64 (.ofNat 0)), (.str [101, 120, 105, 116]), (.int .i64
  (.ofNat 0)), (.str [99, 97, 115, 116]), (.int .i64 (.ofNat 3)), (.str [105, 115]), (.int .i64 (.ofNat 3)), (.str [112, 114, 105, 110, 116]), (.int .i64 (.ofNat 0)), (.str [114,
  101, 97, 100]), (.int .i64 (.ofNat 0)), (.str [106, 111, 105, 110]), (.int .i64 (.ofNat 0)), (.str [115, 108, 101, 110]), (.int .i64 (.ofNat 0)), (.str [115, 112, 97, 119, 110]),
  (.int .i64 (.ofNat 0)), (.str [111, 108, 100]), (.int .i64 (.ofNat 4))]
def formsT : PT AV := (.nd (.nd (.nd (.nd (.nd (.nd (.nd .lf (some (.int .i64 (.ofNat 0))) .lf) (some (.int .i64 (.ofNat 0))) .lf) (some (.int .i64 (.ofNat 6))) (.nd (.nd .lf (some
  (.int .i64 (.ofNat 3))) .lf) (some (.int .i64 (.ofNat 7))) .lf)) (some (.int .i64 (.ofNat 0))) (.nd (.nd (.nd .lf (some (.int .i64 (.ofNat 0))) .lf) (some (.int .i64 (.ofNat 0)))
  .lf) (some (.int .i64 (.ofNat 0))) (.nd (.nd .lf (some (.int .i64 (.ofNat 0))) .lf) (some (.int .i64 (.ofNat 4))) .lf))) (some (.int .i64 (.ofNat 1))) (.nd (.nd (.nd (.nd .lf
  (some (.int .i64 (.ofNat 0))) .lf) (some (.int .i64 (.ofNat 0))) .lf) (some (.int .i64 (.ofNat 0))) (.nd (.nd .lf (some (.int .i64 (.ofNat 0))) .lf) (some (.int .i64 (.ofNat 3)))
  .lf)) (some (.int .i64 (.ofNat 0))) (.nd (.nd (.nd .lf (some (.int .i64 (.ofNat 0))) .lf) (some (.int .i64 (.ofNat 0))) .lf) (some (.int .i64 (.ofNat 0))) (.nd (.nd .lf (some
  (.int .i64 (.ofNat 4))) .lf) (some (.int .i64 (.ofNat 0))) .lf)))) (some (.int .i64 (.ofNat 0))) (.nd (.nd (.nd (.nd (.nd .lf (some (.int .i64 (.ofNat 5))) .lf) (some (.int .i64
  (.ofNat 0))) .lf) (some (.int .i64 (.ofNat 0))) (.nd (.nd .lf (some (.int .i64 (.ofNat 0))) .lf) (some (.int .i64 (.ofNat 7))) .lf)) (some (.int .i64 (.ofNat 0))) (.nd (.nd (.nd
  .lf (some (.int .i64 (.ofNat 0))) .lf) (some (.int .i64 (.ofNat 0))) .lf) (some (.int .i64 (.ofNat 0))) (.nd (.nd .lf (some (.int .i64 (.ofNat 0))) .lf) (some (.int .i64 (.ofNat
  3))) .lf))) (some (.int .i64 (.ofNat 2))) (.nd (.nd (.nd (.nd .lf (some (.int .i64 (.ofNat 0))) .lf) (some (.int .i64 (.ofNat 0))) .lf) (some (.int .i64 (.ofNat 0))) (.nd (.nd
  .lf (some (.int .i64 (.ofNat 0))) .lf) (some (.int .i64 (.ofNat 4))) .lf)) (some (.int .i64 (.ofNat 6))) (.nd (.nd (.nd .lf (some (.int .i64 (.ofNat 3))) .lf) (some (.int .i64
  (.ofNat 7))) .lf) (some (.int .i64 (.ofNat 0))) (.nd .lf (some (.int .i64 (.ofNat 0))) .lf))))) (some (.str [110, 111, 112])) (.nd (.nd (.nd (.nd (.nd (.nd .lf (some (.str [99,
  97, 108, 108])) .lf) (some (.str [110, 111, 116])) .lf) (some (.str [112, 111, 112])) (.nd (.nd .lf (some (.str [112, 114, 105, 110, 116])) .lf) (some (.str [106, 117, 109, 112,
  102])) .lf)) (some (.str [102, 97, 108, 115, 101])) (.nd (.nd (.nd .lf (some (.str [101, 110, 116, 101, 114])) .lf) (some (.str [101, 113, 98])) .lf) (some (.str [109, 117,
  108])) (.nd (.nd .lf (some (.str [115, 112, 97, 119, 110])) .lf) (some (.str [97, 114, 114])) .lf))) (some (.str [115, 116, 114])) (.nd (.nd (.nd (.nd .lf (some (.str [114, 101,
  116, 118])) .lf) (some (.str [108, 101])) .lf) (some (.str [97, 100, 100])) (.nd (.nd .lf (some (.str [106, 111, 105, 110])) .lf) (some (.str [103, 101, 116, 102])) .lf)) (some
  (.str [108, 111, 97, 100])) (.nd (.nd (.nd .lf (some (.str [99, 97, 115, 116])) .lf) (some (.str [106, 117, 109, 112])) .lf) (some (.str [114, 101, 109])) (.nd .lf (some (.str
  [97, 115, 116, 111, 114, 101])) .lf)))) (some (.str [105, 110, 116])) (.nd (.nd (.nd (.nd (.nd .lf (some (.str [114, 101, 116])) .lf) (some (.str [108, 116])) .lf) (some (.str
  [100, 117, 112])) (.nd (.nd .lf (some (.str [114, 101, 97, 100])) .lf) (some (.str [110, 101, 119])) .lf)) (some (.str [110, 117, 108, 108])) (.nd (.nd (.nd .lf (some (.str [101,
  120, 105, 116])) .lf) (some (.str [101, 113, 114])) .lf) (some (.str [100, 105, 118])) (.nd (.nd .lf (some (.str [111, 108, 100])) .lf) (some (.str [97, 108, 111, 97, 100]))
  .lf))) (some (.str [116, 114, 117, 101])) (.nd (.nd (.nd (.nd .lf (some (.str [116, 104, 114, 111, 119])) .lf) (some (.str [101, 113, 105])) .lf) (some (.str [115, 117, 98]))
  (.nd (.nd .lf (some (.str [115, 108, 101, 110])) .lf) (some (.str [112, 117, 116, 102])) .lf)) (some (.str [115, 116, 111, 114, 101])) (.nd (.nd (.nd .lf (some (.str [105, 115]))
  .lf) (some (.str [106, 117, 109, 112, 116])) .lf) (some (.str [110, 101, 103])) (.nd .lf (some (.str [97, 108, 101, 110])) .lf))))))
theorem formsT_eq : PT.setL .lf 0 formsL = formsT := by kernel_rfl
def firstL : List AV := [(.int .u8 (.ofNat 240)), (.int .u8 (.ofNat 240)), (.int .u8 (.ofNat 240)), (.int .u8 (.ofNat 240)), (.int .u8 (.ofNat 240)), (.int .u8 (.ofNat 240)), (.int
  .u8 (.ofNat 240)), (.int .u8 (.ofNat 240)), (.int .u8 (.ofNat 240)), (.int .u8 (.ofNat 240)), (.int .u8 (.ofNat 240)), (.int .u8 (.ofNat 240)), (.int .u8 (.ofNat 240)), (.int .u8
  (.ofNat 240)), (.int .u8 (.ofNat 240)), (.int .u8 (.ofNat 240)), (.int .u8 (.ofNat 240)), (.int .u8 (.ofNat 240)), (.int .u8 (.ofNat 240)), (.int .u8 (.ofNat 240)), (.int .u8
  (.ofNat 240)), (.int .u8 (.ofNat 240)), (.int .u8 (.ofNat 240)), (.int .u8 (.ofNat 240)), (.int .u8 (.ofNat 240)), (.int .u8 (.ofNat 240)), (.int .u8 (.ofNat 240)), (.int .u8
  (.ofNat 240)), (.int .u8 (.ofNat 240)), (.int .u8 (.ofNat 240)), (.int .u8 (.ofNat 240)), (.int .u8 (.ofNat 240)), (.int .u8 (.ofNat 240)), (.int .u8 (.ofNat 240)), (.int .u8
  (.ofNat 240)), (.int .u8 (.ofNat 240)), (.int .u8 (.ofNat 240)), (.int .u8 (.ofNat 240)), (.int .u8 (.ofNat 240)), (.int .u8 (.ofNat 240)), (.int .u8 (.ofNat 240)), (.int .u8
  (.ofNat 240)), (.int .u8 (.ofNat 240)), (.int .u8 (.ofNat 240)), (.int .u8 (.ofNat 240)), (.int .u8 (.ofNat 240)), (.int .u8 (.ofNat 240)), (.int .u8 (.ofNat 240)), (.int .u8
  (.ofNat 240)), (.int .u8 (.ofNat 240)), (.int .u8 (.ofNat 240)), (.int .u8 (.ofNat 240)), (.int .u8 (.ofNat 240)), (.int .u8 (.ofNat 240)), (.int .u8 (.ofNat 240)), (.int .u8
  (.ofNat 240)), (.int .u8 (.ofNat 240)), (.int .u8 (.ofNat 240)), (.int .u8 (.ofNat 240)), (.int .u8 (.ofNat 240)), (.int .u8 (.ofNat 240)), (.int .u8 (.ofNat 240)), (.int .u8
  (.ofNat 240)), (.int .u8 (.ofNat 240)), (.int .u8 (.ofNat 240)), (.int .u8 (.ofNat 240)), (.int .u8 (.ofNat 240)), (.int .u8 (.ofNat 240)), (.int .u8 (.ofNat 240)), (.int .u8
  (.ofNat 240)), (.int .u8 (.ofNat 240)), (.int .u8 (.ofNat 240)), (.int .u8 (.ofNat 240)), (.int .u8 (.ofNat 240)), (.int .u8 (.ofNat 240)), (.int .u8 (.ofNat 240)), (.int .u8
  (.ofNat 240)), (.int .u8 (.ofNat 240)), (.int .u8 (.ofNat 240)), (.int .u8 (.ofNat 240)), (.int .u8 (.ofNat 240)), (.int .u8 (.ofNat 240)), (.int .u8 (.ofNat 240)), (.int .u8
  (.ofNat 240)), (.int .u8 (.ofNat 240)), (.int .u8 (.ofNat 240)), (.int .u8 (.ofNat 240)), (.int .u8 (.ofNat 240)), (.int .u8 (.ofNat 240)), (.int .u8 (.ofNat 240)), (.int .u8
  (.ofNat 240)), (.int .u8 (.ofNat 240)), (.int .u8 (.ofNat 240)), (.int .u8 (.ofNat 240)), (.int .u8 (.ofNat 240)), (.int .u8 (.ofNat 240)), (.int .u8 (.ofNat 240)), (.int .u8
  (.ofNat 240)), (.int .u8 (.ofNat 240)), (.int .u8 (.ofNat 240)), (.int .u8 (.ofNat 240)), (.int .u8 (.ofNat 240)), (.int .u8 (.ofNat 240)), (.int .u8 (.ofNat 240)), (.int .u8
  (.ofNat 240)), (.int .u8 (.ofNat 240)), (.int .u8 (.ofNat 240)), (.int .u8 (.ofNat 240)), (.int .u8 (.ofNat 240)), (.int .u8 (.ofNat 240)), (.int .u8 (.ofNat 240)), (.int .u8
  (.ofNat 240)), (.int .u8 (.ofNat 240)), (.int .u8 (.ofNat 240)), (.int .u8 (.ofNat 240)), (.int .u8 (.ofNat 240)), (.int .u8 (.ofNat 240)), (.int .u8 (.ofNat 240)), (.int .u8
  (.ofNat 240)), (.int .u8 (.ofNat 240)), (.int .u8 (.ofNat 240)), (.int .u8 (.ofNat 240)), (.int .u8 (.ofNat 240)), (.int .u8 (.ofNat 240)), (.int .u8 (.ofNat 240)), (.int .u8
  (.ofNat 240)), (.int .u8 (.ofNat 240)), (.int .u8 (.ofNat 240)), (.int .u8 (.ofNat 241)), (.int .u8 (.ofNat 241)), (.int .u8 (.ofNat 241)), (.int .u8 (.ofNat 241)), (.int .u8
  (.ofNat 241)), (.int .u8 (.ofNat 241)), (.int .u8 (.ofNat 241)), (.int .u8 (.ofNat 241)), (.int .u8 (.ofNat 241)), (.int .u8 (.ofNat 241)), (.int .u8 (.ofNat 241)), (.int .u8
  (.ofNat 241)), (.int .u8 (.ofNat 241)), (.int .u8 (.ofNat 241)), (.int .u8 (.ofNat 241)), (.int .u8 (.ofNat 241)), (.int .u8 (.ofNat 241)), (.int .u8 (.ofNat 241)), (.int .u8
  (.ofNat 241)), (.int .u8 (.ofNat 241)), (.int .u8 (.ofNat 241)), (.int .u8 (.ofNat 241)), (.int .u8 (.ofNat 241)), (.int .u8 (.ofNat 241)), (.int .u8 (.ofNat 241)), (.int .u8
  (.ofNat 241)), (.int .u8 (.ofNat 241)), (.int .u8 (.ofNat 241)), (.int .u8 (.ofNat 241)), (.int .u8 (.ofNat 241)), (.int .u8 (.ofNat 241)), (.int .u8 (.ofNat 241)), (.int .u8
  (.ofNat 241)), (.int .u8 (.ofNat 241)), (.int .u8 (.ofNat 241)), (.int .u8 (.ofNat 241)), (.int .u8 (.ofNat 241)), (.int .u8 (.ofNat 241)), (.int .u8 (.ofNat 241)), (.int .u8
  (.ofNat 241)), (.int .u8 (.ofNat 241)), (.int .u8 (.ofNat 241)), (.int .u8 (.ofNat 241)), (.int .u8 (.ofNat 241)), (.int .u8 (.ofNat 241)), (.int .u8 (.ofNat 241)), (.int .u8
  (.ofNat 241)), (.int .u8 (.ofNat 241)), (.int .u8 (.ofNat 241)), (.int .u8 (.ofNat 241)), (.int .u8 (.ofNat 241)), (.int .u8 (.ofNat 241)), (.int .u8 (.ofNat 241)), (.int .u8
  (.ofNat 241)), (.int .u8 (.ofNat 241)), (.int .u8 (.ofNat 241)), (.int .u8 (.ofNat 241)), (.int .u8 (.ofNat 241)), (.int .u8 (.ofNat 241)), (.int .u8 (.ofNat 241)), (.int .u8
  (.ofNat 241)), (.int .u8 (.ofNat 241)), (.int .u8 (.ofNat 241)), (.int .u8 (.ofNat 241)), (.int .u8 (.ofNat 241)), (.int .u8 (.ofNat 241)), (.int .u8 (.ofNat 2)), (.int .u8
  (.ofNat 2)), (.int .u8 (.ofNat 2)), (.int .u8 (.ofNat 2)), (.int .u8 (.ofNat 2)), (.int .u8 (.ofNat 2)), (.int .u8 (.ofNat 2)), (.int .u8 (.ofNat 2)), (.int .u8 (.ofNat 2)),
  (.int .u8 (.ofNat 2)), (.int .u8 (.ofNat 2)), (.int .u8 (.ofNat 2)), (.int .u8 (.ofNat 2)), (.int .u8 (.ofNat 2)), (.int .u8 (.ofNat 2)), (.int .u8 (.ofNat 2)), (.int .u8 (.ofNat
  2)), (.int .u8 (.ofNat 2)), (.int .u8 (.ofNat 2)), (.int .u8 (.ofNat 2)), (.int .u8 (.ofNat 2)), (.int .u8 (.ofNat 2)), (.int .u8 (.ofNat 2)), (.int .u8 (.ofNat 2)), (.int .u8
  (.ofNat 2)), (.int .u8 (.ofNat 2)), (.int .u8 (.ofNat 2)), (.int .u8 (.ofNat 2)), (.int .u8 (.ofNat 2)), (.int .u8 (.ofNat 2)), (.int .u8 (.ofNat 19)), (.int .u8 (.ofNat 3)),
  (.int .u8 (.ofNat 3)), (.int .u8 (.ofNat 3)), (.int .u8 (.ofNat 3)), (.int .u8 (.ofNat 3)), (.int .u8 (.ofNat 3)), (.int .u8 (.ofNat 3)), (.int .u8 (.ofNat 3)), (.int .u8 (.ofNat
  3)), (.int .u8 (.ofNat 3)), (.int .u8 (.ofNat 3)), (.int .u8 (.ofNat 3)), (.int .u8 (.ofNat 35)), (.int .u8 (.ofNat 3)), (.int .u8 (.ofNat 3)), (.int .u8 (.ofNat 52)), (.int .u8
  (.ofNat 4)), (.int .u8 (.ofNat 4)), (.int .u8 (.ofNat 4)), (.int .u8 (.ofNat 68)), (.int .u8 (.ofNat 241)), (.int .u8 (.ofNat 241)), (.int .u8 (.ofNat 241)), (.int .u8 (.ofNat
  241)), (.int .u8 (.ofNat 241)), (.int .u8 (.ofNat 241)), (.int .u8 (.ofNat 241)), (.int .u8 (.ofNat 241)), (.int .u8 (.ofNat 241)), (.int .u8 (.ofNat 241)), (.int .u8 (.ofNat
  241))]
def firstT : PT AV := (.nd (.nd (.nd (.nd (.nd (.nd (.nd (.nd (.nd .lf (some (.int .u8 (.ofNat 241))) .lf) (some (.int .u8 (.ofNat 240))) .lf) (some (.int .u8 (.ofNat 240))) (.nd
  .lf (some (.int .u8 (.ofNat 241))) .lf)) (some (.int .u8 (.ofNat 240))) (.nd (.nd .lf (some (.int .u8 (.ofNat 241))) .lf) (some (.int .u8 (.ofNat 240))) (.nd .lf (some (.int .u8
  (.ofNat 2))) .lf))) (some (.int .u8 (.ofNat 240))) (.nd (.nd (.nd .lf (some (.int .u8 (.ofNat 241))) .lf) (some (.int .u8 (.ofNat 240))) (.nd .lf (some (.int .u8 (.ofNat 2)))
  .lf)) (some (.int .u8 (.ofNat 240))) (.nd (.nd .lf (some (.int .u8 (.ofNat 241))) .lf) (some (.int .u8 (.ofNat 240))) (.nd .lf (some (.int .u8 (.ofNat 3))) .lf)))) (some (.int
  .u8 (.ofNat 240))) (.nd (.nd (.nd (.nd .lf (some (.int .u8 (.ofNat 241))) .lf) (some (.int .u8 (.ofNat 240))) (.nd .lf (some (.int .u8 (.ofNat 2))) .lf)) (some (.int .u8 (.ofNat
  240))) (.nd (.nd .lf (some (.int .u8 (.ofNat 241))) .lf) (some (.int .u8 (.ofNat 240))) (.nd .lf (some (.int .u8 (.ofNat 3))) .lf))) (some (.int .u8 (.ofNat 240))) (.nd (.nd (.nd
  .lf (some (.int .u8 (.ofNat 241))) .lf) (some (.int .u8 (.ofNat 240))) (.nd .lf (some (.int .u8 (.ofNat 2))) .lf)) (some (.int .u8 (.ofNat 240))) (.nd (.nd .lf (some (.int .u8
  (.ofNat 241))) .lf) (some (.int .u8 (.ofNat 240))) (.nd .lf (some (.int .u8 (.ofNat 241))) .lf))))) (some (.int .u8 (.ofNat 240))) (.nd (.nd (.nd (.nd (.nd .lf (some (.int .u8
  (.ofNat 241))) .lf) (some (.int .u8 (.ofNat 240))) (.nd .lf (some (.int .u8 (.ofNat 2))) .lf)) (some (.int .u8 (.ofNat 240))) (.nd (.nd .lf (some (.int .u8 (.ofNat 241))) .lf)
  (some (.int .u8 (.ofNat 240))) (.nd .lf (some (.int .u8 (.ofNat 3))) .lf))) (some (.int .u8 (.ofNat 240))) (.nd (.nd (.nd .lf (some (.int .u8 (.ofNat 241))) .lf) (some (.int .u8
  (.ofNat 240))) (.nd .lf (some (.int .u8 (.ofNat 2))) .lf)) (some (.int .u8 (.ofNat 240))) (.nd (.nd .lf (some (.int .u8 (.ofNat 241))) .lf) (some (.int .u8 (.ofNat 240))) (.nd
  .lf (some (.int .u8 (.ofNat 4))) .lf)))) (some (.int .u8 (.ofNat 240))) (.nd (.nd (.nd (.nd .lf (some (.int .u8 (.ofNat 241))) .lf) (some (.int .u8 (.ofNat 240))) (.nd .lf (some
  (.int .u8 (.ofNat 2))) .lf)) (some (.int .u8 (.ofNat 240))) (.nd (.nd .lf (some (.int .u8 (.ofNat 241))) .lf) (some (.int .u8 (.ofNat 240))) (.nd .lf (some (.int .u8 (.ofNat 3)))
  .lf))) (some (.int .u8 (.ofNat 240))) (.nd (.nd (.nd .lf (some (.int .u8 (.ofNat 241))) .lf) (some (.int .u8 (.ofNat 240))) (.nd .lf (some (.int .u8 (.ofNat 2))) .lf)) (some
  (.int .u8 (.ofNat 240))) (.nd (.nd .lf (some (.int .u8 (.ofNat 241))) .lf) (some (.int .u8 (.ofNat 240))) (.nd .lf (some (.int .u8 (.ofNat 241))) .lf)))))) (some (.int .u8
  (.ofNat 240))) (.nd (.nd (.nd (.nd (.nd (.nd .lf (some (.int .u8 (.ofNat 241))) .lf) (some (.int .u8 (.ofNat 240))) (.nd .lf (some (.int .u8 (.ofNat 241))) .lf)) (some (.int .u8
  (.ofNat 240))) (.nd (.nd .lf (some (.int .u8 (.ofNat 241))) .lf) (some (.int .u8 (.ofNat 240))) (.nd .lf (some (.int .u8 (.ofNat 3))) .lf))) (some (.int .u8 (.ofNat 240))) (.nd
  (.nd (.nd .lf (some (.int .u8 (.ofNat 241))) .lf) (some (.int .u8 (.ofNat 240))) (.nd .lf (some (.int .u8 (.ofNat 2))) .lf)) (some (.int .u8 (.ofNat 240))) (.nd (.nd .lf (some
  (.int .u8 (.ofNat 241))) .lf) (some (.int .u8 (.ofNat 240))) (.nd .lf (some (.int .u8 (.ofNat 4))) .lf)))) (some (.int .u8 (.ofNat 240))) (.nd (.nd (.nd (.nd .lf (some (.int .u8
  (.ofNat 241))) .lf) (some (.int .u8 (.ofNat 240))) (.nd .lf (some (.int .u8 (.ofNat 2))) .lf)) (some (.int .u8 (.ofNat 240))) (.nd (.nd .lf (some (.int .u8 (.ofNat 241))) .lf)
  (some (.int .u8 (.ofNat 240))) (.nd .lf (some (.int .u8 (.ofNat 3))) .lf))) (some (.int .u8 (.ofNat 240))) (.nd (.nd (.nd .lf (some (.int .u8 (.ofNat 241))) .lf) (some (.int .u8
  (.ofNat 240))) (.nd .lf (some (.int .u8 (.ofNat 2))) .lf)) (some (.int .u8 (.ofNat 240))) (.nd (.nd .lf (some (.int .u8 (.ofNat 241))) .lf) (some (.int .u8 (.ofNat 240))) (.nd
  .lf (some (.int .u8 (.ofNat 241))) .lf))))) (some (.int .u8 (.ofNat 240))) (.nd (.nd (.nd (.nd (.nd .lf (some (.int .u8 (.ofNat 241))) .lf) (some (.int .u8 (.ofNat 240))) (.nd
  .lf (some (.int .u8 (.ofNat 2))) .lf)) (some (.int .u8 (.ofNat 240))) (.nd (.nd .lf (some (.int .u8 (.ofNat 241))) .lf) (some (.int .u8 (.ofNat 240))) (.nd .lf (some (.int .u8
  (.ofNat 3))) .lf))) (some (.int .u8 (.ofNat 240))) (.nd (.nd (.nd .lf (some (.int .u8 (.ofNat 241))) .lf) (some (.int .u8 (.ofNat 240))) (.nd .lf (some (.int .u8 (.ofNat 2)))
  .lf)) (some (.int .u8 (.ofNat 240))) (.nd (.nd .lf (some (.int .u8 (.ofNat 241))) .lf) (some (.int .u8 (.ofNat 240))) (.nd .lf (some (.int .u8 (.ofNat 241))) .lf)))) (some (.int
  .u8 (.ofNat 240))) (.nd (.nd (.nd (.nd .lf (some (.int .u8 (.ofNat 241))) .lf) (some (.int .u8 (.ofNat 240))) (.nd .lf (some (.int .u8 (.ofNat 2))) .lf)) (some (.int .u8 (.ofNat
  240))) (.nd (.nd .lf (some (.int .u8 (.ofNat 241))) .lf) (some (.int .u8 (.ofNat 240))) (.nd .lf (some (.int .u8 (.ofNat 35))) .lf))) (some (.int .u8 (.ofNat 240))) (.nd (.nd
  (.nd .lf (some (.int .u8 (.ofNat 241))) .lf) (some (.int .u8 (.ofNat 240))) (.nd .lf (some (.int .u8 (.ofNat 2))) .lf)) (some (.int .u8 (.ofNat 240))) (.nd (.nd .lf (some (.int
  .u8 (.ofNat 241))) .lf) (some (.int .u8 (.ofNat 240))) (.nd .lf (some (.int .u8 (.ofNat 241))) .lf))))))) (some (.int .u8 (.ofNat 240))) (.nd (.nd (.nd (.nd (.nd (.nd (.nd .lf
  (some (.int .u8 (.ofNat 241))) .lf) (some (.int .u8 (.ofNat 240))) (.nd .lf (some (.int .u8 (.ofNat 241))) .lf)) (some (.int .u8 (.ofNat 240))) (.nd (.nd .lf (some (.int .u8
  (.ofNat 241))) .lf) (some (.int .u8 (.ofNat 240))) (.nd .lf (some (.int .u8 (.ofNat 19))) .lf))) (some (.int .u8 (.ofNat 240))) (.nd (.nd (.nd .lf (some (.int .u8 (.ofNat 241)))
  .lf) (some (.int .u8 (.ofNat 240))) (.nd .lf (some (.int .u8 (.ofNat 2))) .lf)) (some (.int .u8 (.ofNat 240))) (.nd (.nd .lf (some (.int .u8 (.ofNat 241))) .lf) (some (.int .u8
  (.ofNat 240))) (.nd .lf (some (.int .u8 (.ofNat 52))) .lf)))) (some (.int .u8 (.ofNat 240))) (.nd (.nd (.nd (.nd .lf (some (.int .u8 (.ofNat 241))) .lf) (some (.int .u8 (.ofNat
  240))) (.nd .lf (some (.int .u8 (.ofNat 2))) .lf)) (some (.int .u8 (.ofNat 240))) (.nd (.nd .lf (some (.int .u8 (.ofNat 241))) .lf) (some (.int .u8 (.ofNat 240))) (.nd .lf (some
  (.int .u8 (.ofNat 3))) .lf))) (some (.int .u8 (.ofNat 240))) (.nd (.nd (.nd .lf (some (.int .u8 (.ofNat 241))) .lf) (some (.int .u8 (.ofNat 240))) (.nd .lf (some (.int .u8
  (.ofNat 2))) .lf)) (some (.int .u8 (.ofNat 240))) (.nd (.nd .lf (some (.int .u8 (.ofNat 241))) .lf) (some (.int .u8 (.ofNat 240))) (.nd .lf (some (.int .u8 (.ofNat 241)))
  .lf))))) (some (.int .u8 (.ofNat 240))) (.nd (.nd (.nd (.nd (.nd .lf (some (.int .u8 (.ofNat 241))) .lf) (some (.int .u8 (.ofNat 240))) (.nd .lf (some (.int .u8 (.ofNat 2)))
  .lf)) (some (.int .u8 (.ofNat 240))) (.nd (.nd .lf (some (.int .u8 (.ofNat 241))) .lf) (some (.int .u8 (.ofNat 240))) (.nd .lf (some (.int .u8 (.ofNat 3))) .lf))) (some (.int .u8
  (.ofNat 240))) (.nd (.nd (.nd .lf (some (.int .u8 (.ofNat 241))) .lf) (some (.int .u8 (.ofNat 240))) (.nd .lf (some (.int .u8 (.ofNat 2))) .lf)) (some (.int .u8 (.ofNat 240)))
  (.nd (.nd .lf (some (.int .u8 (.ofNat 241))) .lf) (some (.int .u8 (.ofNat 240))) (.nd .lf (some (.int .u8 (.ofNat 68))) .lf)))) (some (.int .u8 (.ofNat 240))) (.nd (.nd (.nd (.nd
  .lf (some (.int .u8 (.ofNat 241))) .lf) (some (.int .u8 (.ofNat 240))) (.nd .lf (some (.int .u8 (.ofNat 2))) .lf)) (some (.int .u8 (.ofNat 240))) (.nd (.nd .lf (some (.int .u8
  (.ofNat 241))) .lf) (some (.int .u8 (.ofNat 240))) (.nd .lf (some (.int .u8 (.ofNat 3))) .lf))) (some (.int .u8 (.ofNat 240))) (.nd (.nd (.nd .lf (some (.int .u8 (.ofNat 241)))
  .lf) (some (.int .u8 (.ofNat 240))) (.nd .lf (some (.int .u8 (.ofNat 2))) .lf)) (some (.int .u8 (.ofNat 240))) (.nd (.nd .lf (some (.int .u8 (.ofNat 241))) .lf) (some (.int .u8
  (.ofNat 240))) (.nd .lf (some (.int .u8 (.ofNat 241))) .lf)))))) (some (.int .u8 (.ofNat 240))) (.nd (.nd (.nd (.nd (.nd (.nd .lf (some (.int .u8 (.ofNat 241))) .lf) (some (.int
  .u8 (.ofNat 240))) (.nd .lf (some (.int .u8 (.ofNat 2))) .lf)) (some (.int .u8 (.ofNat 240))) (.nd (.nd .lf (some (.int .u8 (.ofNat 241))) .lf) (some (.int .u8 (.ofNat 240)))
  (.nd .lf (some (.int .u8 (.ofNat 3))) .lf))) (some (.int .u8 (.ofNat 240))) (.nd (.nd (.nd .lf (some (.int .u8 (.ofNat 241))) .lf) (some (.int .u8 (.ofNat 240))) (.nd .lf (some
  (.int .u8 (.ofNat 2))) .lf)) (some (.int .u8 (.ofNat 240))) (.nd (.nd .lf (some (.int .u8 (.ofNat 241))) .lf) (some (.int .u8 (.ofNat 240))) (.nd .lf (some (.int .u8 (.ofNat 4)))
  .lf)))) (some (.int .u8 (.ofNat 240))) (.nd (.nd (.nd (.nd .lf (some (.int .u8 (.ofNat 241))) .lf) (some (.int .u8 (.ofNat 240))) (.nd .lf (some (.int .u8 (.ofNat 2))) .lf))
  (some (.int .u8 (.ofNat 240))) (.nd (.nd .lf (some (.int .u8 (.ofNat 241))) .lf) (some (.int .u8 (.ofNat 240))) (.nd .lf (some (.int .u8 (.ofNat 3))) .lf))) (some (.int .u8
  (.ofNat 240))) (.nd (.nd (.nd .lf (some (.int .u8 (.ofNat 241))) .lf) (some (.int .u8 (.ofNat 240))) (.nd .lf (some (.int .u8 (.ofNat 2))) .lf)) (some (.int .u8 (.ofNat 240)))
  (.nd (.nd .lf (some (.int .u8 (.ofNat 241))) .lf) (some (.int .u8 (.ofNat 240))) (.nd .lf (some (.int .u8 (.ofNat 241))) .lf))))) (some (.int .u8 (.ofNat 240))) (.nd (.nd (.nd
  (.nd (.nd .lf (some (.int .u8 (.ofNat 241))) .lf) (some (.int .u8 (.ofNat 240))) (.nd .lf (some (.int .u8 (.ofNat 2))) .lf)) (some (.int .u8 (.ofNat 240))) (.nd (.nd .lf (some
  (.int .u8 (.ofNat 241))) .lf) (some (.int .u8 (.ofNat 240))) (.nd .lf (some (.int .u8 (.ofNat 3))) .lf))) (some (.int .u8 (.ofNat 240))) (.nd (.nd (.nd .lf (some (.int .u8
  (.ofNat 241))) .lf) (some (.int .u8 (.ofNat 240))) (.nd .lf (some (.int .u8 (.ofNat 2))) .lf)) (some (.int .u8 (.ofNat 240))) (.nd (.nd .lf (some (.int .u8 (.ofNat 241))) .lf)
  (some (.int .u8 (.ofNat 240))) (.nd .lf (some (.int .u8 (.ofNat 241))) .lf)))) (some (.int .u8 (.ofNat 240))) (.nd (.nd (.nd (.nd .lf (some (.int .u8 (.ofNat 241))) .lf) (some
  (.int .u8 (.ofNat 240))) (.nd .lf (some (.int .u8 (.ofNat 2))) .lf)) (some (.int .u8 (.ofNat 240))) (.nd (.nd .lf (some (.int .u8 (.ofNat 241))) .lf) (some (.int .u8 (.ofNat
  240))) (.nd .lf (some (.int .u8 (.ofNat 3))) .lf))) (some (.int .u8 (.ofNat 240))) (.nd (.nd (.nd .lf (some (.int .u8 (.ofNat 241))) .lf) (some (.int .u8 (.ofNat 240))) (.nd .lf
  (some (.int .u8 (.ofNat 2))) .lf)) (some (.int .u8 (.ofNat 240))) (.nd (.nd .lf (some (.int .u8 (.ofNat 241))) .lf) (some (.int .u8 (.ofNat 240))) (.nd .lf (some (.int .u8
  (.ofNat 241))) .lf))))))))
theorem firstT_eq : PT.setL .lf 0 firstL = firstT := by kernel_rfl
def acceptL : List AV := [(.int .u8 (.ofNat 128)), (.int .u8 (.ofNat 191)), (.int .u8 (.ofNat 160)), (.int .u8 (.ofNat 191)), (.int .u8 (.ofNat 128)), (.int .u8 (.ofNat 159)),
  (.int .u8 (.ofNat 144)), (.int .u8 (.ofNat 191)), (.int .u8 (.ofNat 128)), (.int .u8 (.ofNat 143)), (.int .u8 (.ofNat 0)), (.int .u8 (.ofNat 0)), (.int .u8 (.ofNat 0)), (.int .u8
  (.ofNat 0)), (.int .u8 (.ofNat 0)), (.int .u8 (.ofNat 0)), (.int .u8 (.ofNat 0)), (.int .u8 (.ofNat 0)), (.int .u8 (.ofNat 0)), (.int .u8 (.ofNat 0)), (.int .u8 (.ofNat 0)),
  (.int .u8 (.ofNat 0)), (.int .u8 (.ofNat 0)), (.int .u8 (.ofNat 0)), (.int .u8 (.ofNat 0)), (.int .u8 (.ofNat 0)), (.int .u8 (.ofNat 0)), (.int .u8 (.ofNat 0)), (.int .u8 (.ofNat
  0)), (.int .u8 (.ofNat 0)), (.int .u8 (.ofNat 0)), (.int .u8 (.ofNat 0))]
def acceptT : PT AV := (.nd (.nd (.nd (.nd (.nd (.nd .lf (some (.int .u8 (.ofNat 0))) .lf) (some (.int .u8 (.ofNat 0))) .lf) (some (.int .u8 (.ofNat 191))) (.nd .lf (some (.int .u8
  (.ofNat 0))) .lf)) (some (.int .u8 (.ofNat 191))) (.nd (.nd .lf (some (.int .u8 (.ofNat 0))) .lf) (some (.int .u8 (.ofNat 0))) (.nd .lf (some (.int .u8 (.ofNat 0))) .lf))) (some
  (.int .u8 (.ofNat 191))) (.nd (.nd (.nd .lf (some (.int .u8 (.ofNat 0))) .lf) (some (.int .u8 (.ofNat 143))) (.nd .lf (some (.int .u8 (.ofNat 0))) .lf)) (some (.int .u8 (.ofNat
  159))) (.nd (.nd .lf (some (.int .u8 (.ofNat 0))) .lf) (some (.int .u8 (.ofNat 0))) (.nd .lf (some (.int .u8 (.ofNat 0))) .lf)))) (some (.int .u8 (.ofNat 128))) (.nd (.nd (.nd
  (.nd .lf (some (.int .u8 (.ofNat 0))) .lf) (some (.int .u8 (.ofNat 128))) (.nd .lf (some (.int .u8 (.ofNat 0))) .lf)) (some (.int .u8 (.ofNat 128))) (.nd (.nd .lf (some (.int .u8
  (.ofNat 0))) .lf) (some (.int .u8 (.ofNat 0))) (.nd .lf (some (.int .u8 (.ofNat 0))) .lf))) (some (.int .u8 (.ofNat 160))) (.nd (.nd (.nd .lf (some (.int .u8 (.ofNat 0))) .lf)
  (some (.int .u8 (.ofNat 0))) (.nd .lf (some (.int .u8 (.ofNat 0))) .lf)) (some (.int .u8 (.ofNat 144))) (.nd (.nd .lf (some (.int .u8 (.ofNat 0))) .lf) (some (.int .u8 (.ofNat
  0))) (.nd .lf (some (.int .u8 (.ofNat 0))) .lf)))))
theorem acceptT_eq : PT.setL .lf 0 acceptL = acceptT := by kernel_rfl
def asciiL : List AV := [(.int .u8 (.ofNat 0)), (.int .u8 (.ofNat 0)), (.int .u8 (.ofNat 0)), (.int .u8 (.ofNat 0)), (.int .u8 (.ofNat 0)), (.int .u8 (.ofNat 0)), (.int .u8 (.ofNat
  0)), (.int .u8 (.ofNat 0)), (.int .u8 (.ofNat 0)), (.int .u8 (.ofNat 1)), (.int .u8 (.ofNat 1)), (.int .u8 (.ofNat 1)), (.int .u8 (.ofNat 1)), (.int .u8 (.ofNat 1)), (.int .u8
  (.ofNat 0)), (.int .u8 (.ofNat 0)), (.int .u8 (.ofNat 0)), (.int .u8 (.ofNat 0)), (.int .u8 (.ofNat 0)), (.int .u8 (.ofNat 0)), (.int .u8 (.ofNat 0)), (.int .u8 (.ofNat 0)),
  (.int .u8 (.ofNat 0)), (.int .u8 (.ofNat 0)), (.int .u8 (.ofNat 0)), (.int .u8 (.ofNat 0)), (.int .u8 (.ofNat 0)), (.int .u8 (.ofNat 0)), (.int .u8 (.ofNat 0)), (.int .u8 (.ofNat
  0)), (.int .u8 (.ofNat 0)), (.int .u8 (.ofNat 0)), (.int .u8 (.ofNat 1)), (.int .u8 (.ofNat 0)), (.int .u8 (.ofNat 0)), (.int .u8 (.ofNat 0)), (.int .u8 (.ofNat 0)), (.int .u8
  (.ofNat 0)), (.int .u8 (.ofNat 0)), (.int .u8 (.ofNat 0)), (.int .u8 (.ofNat 0)), (.int .u8 (.ofNat 0)), (.int .u8 (.ofNat 0)), (.int .u8 (.ofNat 0)), (.int .u8 (.ofNat 0)),
  (.int .u8 (.ofNat 0)), (.int .u8 (.ofNat 0)), (.int .u8 (.ofNat 0)), (.int .u8 (.ofNat 0)), (.int .u8 (.ofNat 0)), (.int .u8 (.ofNat 0)), (.int .u8 (.ofNat 0)), (.int .u8 (.ofNat
  0)), (.int .u8 (.ofNat 0)), (.int .u8 (.ofNat 0)), (.int .u8 (.ofNat 0)), (.int .u8 (.ofNat 0)), (.int .u8 (.ofNat 0)), (.int .u8 (.ofNat 0)), (.int .u8 (.ofNat 0)), (.int .u8
  (.ofNat 0)), (.int .u8 (.ofNat 0)), (.int .u8 (.ofNat 0)), (.int .u8 (.ofNat 0)), (.int .u8 (.ofNat 0)), (.int .u8 (.ofNat 0)), (.int .u8 (.ofNat 0)), (.int .u8 (.ofNat 0)),
  (.int .u8 (.ofNat 0)), (.int .u8 (.ofNat 0)), (.int .u8 (.ofNat 0)), (.int .u8 (.ofNat 0)), (.int .u8 (.ofNat 0)), (.int .u8 (.ofNat 0)), (.int .u8 (.ofNat 0)), (.int .u8 (.ofNat
  0)), (.int .u8 (.ofNat 0)), (.int .u8 (.ofNat 0)), (.int .u8 (.ofNat 0)), (.int .u8 (.ofNat 0)), (.int .u8 (.ofNat 0)), (.int .u8 (.ofNat 0)), (.int .u8 (.ofNat 0)), (.int .u8
  (.ofNat 0)), (.int .u8 (.ofNat 0)), (.int .u8 (.ofNat 0)), (.int .u8 (.ofNat 0)), (.int .u8 (.ofNat 0)), (.int .u8 (.ofNat 0)), (.int .u8 (.ofNat 0)), (.int .u8 (.ofNat 0)),
  (.int .u8 (.ofNat 0)), (.int .u8 (.ofNat 0)), (.int .u8 (.ofNat 0)), (.int .u8 (.ofNat 0)), (.int .u8 (.ofNat 0)), (.int .u8 (.ofNat 0)), (.int .u8 (.ofNat 0)), (.int .u8 (.ofNat
  0)), (.int .u8 (.ofNat 0)), (.int .u8 (.ofNat 0)), (.int .u8 (.ofNat 0)), (.int .u8 (.ofNat 0)), (.int .u8 (.ofNat 0)), (.int .u8 (.ofNat 0)), (.int .u8 (.ofNat 0)), (.int .u8
  (.ofNat 0)), (.int .u8 (.ofNat 0)), (.int .u8 (.ofNat 0)), (.int .u8 (.ofNat 0)), (.int .u8 (.ofNat 0)), (.int .u8 (.ofNat 0)), (.int .u8 (.ofNat 0)), (.int .u8 (.ofNat 0)),
  (.int .u8 (.ofNat 0)), (.int .u8 (.ofNat 0)), (.int .u8 (.ofNat 0)), (.int .u8 (.ofNat 0)), (.int .u8 (.ofNat 0)), (.int .u8 (.ofNat 0)), (.int .u8 (.ofNat 0)), (.int .u8 (.ofNat
  0)), (.int .u8 (.ofNat 0)), (.int .u8 (.ofNat 0)), (.int .u8 (.ofNat 0)), (.int .u8 (.ofNat 0)), (.int .u8 (.ofNat 0)), (.int .u8 (.ofNat 0)), (.int .u8 (.ofNat 0)), (.int .u8
  (.ofNat 0)), (.int .u8 (.ofNat 0)), (.int .u8 (.ofNat 0)), (.int .u8 (.ofNat 0)), (.int .u8 (.ofNat 0)), (.int .u8 (.ofNat 0)), (.int .u8 (.ofNat 0)), (.int .u8 (.ofNat 0)),
  (.int .u8 (.ofNat 0)), (.int .u8 (.ofNat 0)), (.int .u8 (.ofNat 0)), (.int .u8 (.ofNat 0)), (.int .u8 (.ofNat 0)), (.int .u8 (.ofNat 0)), (.int .u8 (.ofNat 0)), (.int .u8 (.ofNat
  0)), (.int .u8 (.ofNat 0)), (.int .u8 (.ofNat 0)), (.int .u8 (.ofNat 0)), (.int .u8 (.ofNat 0)), (.int .u8 (.ofNat 0)), (.int .u8 (.ofNat 0)), (.int .u8 (.ofNat 0)), (.int .u8
  (.ofNat 0)), (.int .u8 (.ofNat 0)), (.int .u8 (.ofNat 0)), (.int .u8 (.ofNat 0)), (.int .u8 (.ofNat 0)), (.int .u8 (.ofNat 0)), (.int .u8 (.ofNat 0)), (.int .u8 (.ofNat 0)),
  (.int .u8 (.ofNat 0)), (.int .u8 (.ofNat 0)), (.int .u8 (.ofNat 0)), (.int .u8 (.ofNat 0)), (.int .u8 (.ofNat 0)), (.int .u8 (.ofNat 0)), (.int .u8 (.ofNat 0)), (.int .u8 (.ofNat
  0)), (.int .u8 (.ofNat 0)), (.int .u8 (.ofNat 0)), (.int .u8 (.ofNat 0)), (.int .u8 (.ofNat 0)), (.int .u8 (.ofNat 0)), (.int .u8 (.ofNat 0)), (.int .u8 (.ofNat 0)), (.int .u8
  (.ofNat 0)), (.int .u8 (.ofNat 0)), (.int .u8 (.ofNat 0)), (.int .u8 (.ofNat 0)), (.int .u8 (.ofNat 0)), (.int .u8 (.ofNat 0)), (.int .u8 (.ofNat 0)), (.int .u8 (.ofNat 0)),
  (.int .u8 (.ofNat 0)), (.int .u8 (.ofNat 0)), (.int .u8 (.ofNat 0)), (.int .u8 (.ofNat 0)), (.int .u8 (.ofNat 0)), (.int .u8 (.ofNat 0)), (.int .u8 (.ofNat 0)), (.int .u8 (.ofNat
  0)), (.int .u8 (.ofNat 0)), (.int .u8 (.ofNat 0)), (.int .u8 (.ofNat 0)), (.int .u8 (.ofNat 0)), (.int .u8 (.ofNat 0)), (.int .u8 (.ofNat 0)), (.int .u8 (.ofNat 0)), (.int .u8
  (.ofNat 0)), (.int .u8 (.ofNat 0)), (.int .u8 (.ofNat 0)), (.int .u8 (.ofNat 0)), (.int .u8 (.ofNat 0)), (.int .u8 (.ofNat 0)), (.int .u8 (.ofNat 0)), (.int .u8 (.ofNat 0)),
  (.int .u8 (.ofNat 0)), (.int .u8 (.ofNat 0)), (.int .u8 (.ofNat 0)), (.int .u8 (.ofNat 0)), (.int .u8 (.ofNat 0)), (.int .u8 (.ofNat 0)), (.int .u8 (.ofNat 0)), (.int .u8 (.ofNat
  0)), (.int .u8 (.ofNat 0)), (.int .u8 (.ofNat 0)), (.int .u8 (.ofNat 0)), (.int .u8 (.ofNat 0)), (.int .u8 (.ofNat 0)), (.int .u8 (.ofNat 0)), (.int .u8 (.ofNat 0)), (.int .u8
  (.ofNat 0)), (.int .u8 (.ofNat 0)), (.int .u8 (.ofNat 0)), (.int .u8 (.ofNat 0)), (.int .u8 (.ofNat 0)), (.int .u8 (.ofNat 0)), (.int .u8 (.ofNat 0)), (.int .u8 (.ofNat 0)),
  (.int .u8 (.ofNat 0)), (.int .u8 (.ofNat 0)), (.int .u8 (.ofNat 0)), (.int .u8 (.ofNat 0)), (.int .u8 (.ofNat 0)), (.int .u8 (.ofNat 0)), (.int .u8 (.ofNat 0)), (.int .u8 (.ofNat
  0)), (.int .u8 (.ofNat 0)), (.int .u8 (.ofNat 0)), (.int .u8 (.ofNat 0)), (.int .u8 (.ofNat 0)), (.int .u8 (.ofNat 0)), (.int .u8 (.ofNat 0)), (.int .u8 (.ofNat 0)), (.int .u8
  (.ofNat 0)), (.int .u8 (.ofNat 0)), (.int .u8 (.ofNat 0)), (.int .u8 (.ofNat 0)), (.int .u8 (.ofNat 0)), (.int .u8 (.ofNat 0)), (.int .u8 (.ofNat 0)), (.int .u8 (.ofNat 0)),
  (.int .u8 (.ofNat 0)), (.int .u8 (.ofNat 0)), (.int .u8 (.ofNat 0)), (.int .u8 (.ofNat 0))]
def asciiT : PT AV := (.nd (.nd (.nd (.nd (.nd (.nd (.nd (.nd (.nd .lf (some (.int .u8 (.ofNat 0))) .lf) (some (.int .u8 (.ofNat 0))) .lf) (some (.int .u8 (.ofNat 0))) (.nd .lf
  (some (.int .u8 (.ofNat 0))) .lf)) (some (.int .u8 (.ofNat 0))) (.nd (.nd .lf (some (.int .u8 (.ofNat 0))) .lf) (some (.int .u8 (.ofNat 0))) (.nd .lf (some (.int .u8 (.ofNat 0)))
  .lf))) (some (.int .u8 (.ofNat 0))) (.nd (.nd (.nd .lf (some (.int .u8 (.ofNat 0))) .lf) (some (.int .u8 (.ofNat 0))) (.nd .lf (some (.int .u8 (.ofNat 0))) .lf)) (some (.int .u8
  (.ofNat 0))) (.nd (.nd .lf (some (.int .u8 (.ofNat 0))) .lf) (some (.int .u8 (.ofNat 0))) (.nd .lf (some (.int .u8 (.ofNat 0))) .lf)))) (some (.int .u8 (.ofNat 0))) (.nd (.nd
  (.nd (.nd .lf (some (.int .u8 (.ofNat 0))) .lf) (some (.int .u8 (.ofNat 0))) (.nd .lf (some (.int .u8 (.ofNat 0))) .lf)) (some (.int .u8 (.ofNat 0))) (.nd (.nd .lf (some (.int
  .u8 (.ofNat 0))) .lf) (some (.int .u8 (.ofNat 0))) (.nd .lf (some (.int .u8 (.ofNat 0))) .lf))) (some (.int .u8 (.ofNat 0))) (.nd (.nd (.nd .lf (some (.int .u8 (.ofNat 0))) .lf)
  (some (.int .u8 (.ofNat 0))) (.nd .lf (some (.int .u8 (.ofNat 0))) .lf)) (some (.int .u8 (.ofNat 0))) (.nd (.nd .lf (some (.int .u8 (.ofNat 0))) .lf) (some (.int .u8 (.ofNat 0)))
  (.nd .lf (some (.int .u8 (.ofNat 0))) .lf))))) (some (.int .u8 (.ofNat 0))) (.nd (.nd (.nd (.nd (.nd .lf (some (.int .u8 (.ofNat 0))) .lf) (some (.int .u8 (.ofNat 0))) (.nd .lf
  (some (.int .u8 (.ofNat 0))) .lf)) (some (.int .u8 (.ofNat 0))) (.nd (.nd .lf (some (.int .u8 (.ofNat 0))) .lf) (some (.int .u8 (.ofNat 0))) (.nd .lf (some (.int .u8 (.ofNat 0)))
  .lf))) (some (.int .u8 (.ofNat 0))) (.nd (.nd (.nd .lf (some (.int .u8 (.ofNat 0))) .lf) (some (.int .u8 (.ofNat 0))) (.nd .lf (some (.int .u8 (.ofNat 0))) .lf)) (some (.int .u8
  (.ofNat 0))) (.nd (.nd .lf (some (.int .u8 (.ofNat 0))) .lf) (some (.int .u8 (.ofNat 0))) (.nd .lf (some (.int .u8 (.ofNat 0))) .lf)))) (some (.int .u8 (.ofNat 1))) (.nd (.nd
  (.nd (.nd .lf (some (.int .u8 (.ofNat 0))) .lf) (some (.int .u8 (.ofNat 0))) (.nd .lf (some (.int .u8 (.ofNat 0))) .lf)) (some (.int .u8 (.ofNat 0))) (.nd (.nd .lf (some (.int
  .u8 (.ofNat 0))) .lf) (some (.int .u8 (.ofNat 0))) (.nd .lf (some (.int .u8 (.ofNat 0))) .lf))) (some (.int .u8 (.ofNat 0))) (.nd (.nd (.nd .lf (some (.int .u8 (.ofNat 0))) .lf)
  (some (.int .u8 (.ofNat 0))) (.nd .lf (some (.int .u8 (.ofNat 0))) .lf)) (some (.int .u8 (.ofNat 0))) (.nd (.nd .lf (some (.int .u8 (.ofNat 0))) .lf) (some (.int .u8 (.ofNat 0)))
  (.nd .lf (some (.int .u8 (.ofNat 0))) .lf)))))) (some (.int .u8 (.ofNat 0))) (.nd (.nd (.nd (.nd (.nd (.nd .lf (some (.int .u8 (.ofNat 0))) .lf) (some (.int .u8 (.ofNat 0))) (.nd
  .lf (some (.int .u8 (.ofNat 0))) .lf)) (some (.int .u8 (.ofNat 0))) (.nd (.nd .lf (some (.int .u8 (.ofNat 0))) .lf) (some (.int .u8 (.ofNat 0))) (.nd .lf (some (.int .u8 (.ofNat
  0))) .lf))) (some (.int .u8 (.ofNat 0))) (.nd (.nd (.nd .lf (some (.int .u8 (.ofNat 0))) .lf) (some (.int .u8 (.ofNat 0))) (.nd .lf (some (.int .u8 (.ofNat 0))) .lf)) (some (.int
  .u8 (.ofNat 0))) (.nd (.nd .lf (some (.int .u8 (.ofNat 0))) .lf) (some (.int .u8 (.ofNat 0))) (.nd .lf (some (.int .u8 (.ofNat 0))) .lf)))) (some (.int .u8 (.ofNat 1))) (.nd (.nd
  (.nd (.nd .lf (some (.int .u8 (.ofNat 0))) .lf) (some (.int .u8 (.ofNat 0))) (.nd .lf (some (.int .u8 (.ofNat 0))) .lf)) (some (.int .u8 (.ofNat 0))) (.nd (.nd .lf (some (.int
  .u8 (.ofNat 0))) .lf) (some (.int .u8 (.ofNat 0))) (.nd .lf (some (.int .u8 (.ofNat 0))) .lf))) (some (.int .u8 (.ofNat 0))) (.nd (.nd (.nd .lf (some (.int .u8 (.ofNat 0))) .lf)
  (some (.int .u8 (.ofNat 0))) (.nd .lf (some (.int .u8 (.ofNat 0))) .lf)) (some (.int .u8 (.ofNat 0))) (.nd (.nd .lf (some (.int .u8 (.ofNat 0))) .lf) (some (.int .u8 (.ofNat 0)))
  (.nd .lf (some (.int .u8 (.ofNat 0))) .lf))))) (some (.int .u8 (.ofNat 0))) (.nd (.nd (.nd (.nd (.nd .lf (some (.int .u8 (.ofNat 0))) .lf) (some (.int .u8 (.ofNat 0))) (.nd .lf
  (some (.int .u8 (.ofNat 0))) .lf)) (some (.int .u8 (.ofNat 0))) (.nd (.nd .lf (some (.int .u8 (.ofNat 0))) .lf) (some (.int .u8 (.ofNat 0))) (.nd .lf (some (.int .u8 (.ofNat 0)))
  .lf))) (some (.int .u8 (.ofNat 0))) (.nd (.nd (.nd .lf (some (.int .u8 (.ofNat 0))) .lf) (some (.int .u8 (.ofNat 0))) (.nd .lf (some (.int .u8 (.ofNat 0))) .lf)) (some (.int .u8
  (.ofNat 0))) (.nd (.nd .lf (some (.int .u8 (.ofNat 0))) .lf) (some (.int .u8 (.ofNat 0))) (.nd .lf (some (.int .u8 (.ofNat 0))) .lf)))) (some (.int .u8 (.ofNat 1))) (.nd (.nd
  (.nd (.nd .lf (some (.int .u8 (.ofNat 0))) .lf) (some (.int .u8 (.ofNat 0))) (.nd .lf (some (.int .u8 (.ofNat 0))) .lf)) (some (.int .u8 (.ofNat 0))) (.nd (.nd .lf (some (.int
  .u8 (.ofNat 0))) .lf) (some (.int .u8 (.ofNat 0))) (.nd .lf (some (.int .u8 (.ofNat 0))) .lf))) (some (.int .u8 (.ofNat 0))) (.nd (.nd (.nd .lf (some (.int .u8 (.ofNat 0))) .lf)
  (some (.int .u8 (.ofNat 0))) (.nd .lf (some (.int .u8 (.ofNat 0))) .lf)) (some (.int .u8 (.ofNat 0))) (.nd (.nd .lf (some (.int .u8 (.ofNat 0))) .lf) (some (.int .u8 (.ofNat 0)))
  (.nd .lf (some (.int .u8 (.ofNat 0))) .lf))))))) (some (.int .u8 (.ofNat 0))) (.nd (.nd (.nd (.nd (.nd (.nd (.nd .lf (some (.int .u8 (.ofNat 0))) .lf) (some (.int .u8 (.ofNat
  0))) (.nd .lf (some (.int .u8 (.ofNat 0))) .lf)) (some (.int .u8 (.ofNat 1))) (.nd (.nd .lf (some (.int .u8 (.ofNat 0))) .lf) (some (.int .u8 (.ofNat 0))) (.nd .lf (some (.int
  .u8 (.ofNat 0))) .lf))) (some (.int .u8 (.ofNat 0))) (.nd (.nd (.nd .lf (some (.int .u8 (.ofNat 0))) .lf) (some (.int .u8 (.ofNat 0))) (.nd .lf (some (.int .u8 (.ofNat 0))) .lf))
  (some (.int .u8 (.ofNat 0))) (.nd (.nd .lf (some (.int .u8 (.ofNat 0))) .lf) (some (.int .u8 (.ofNat 0))) (.nd .lf (some (.int .u8 (.ofNat 0))) .lf)))) (some (.int .u8 (.ofNat
  0))) (.nd (.nd (.nd (.nd .lf (some (.int .u8 (.ofNat 0))) .lf) (some (.int .u8 (.ofNat 0))) (.nd .lf (some (.int .u8 (.ofNat 0))) .lf)) (some (.int .u8 (.ofNat 0))) (.nd (.nd .lf
  (some (.int .u8 (.ofNat 0))) .lf) (some (.int .u8 (.ofNat 0))) (.nd .lf (some (.int .u8 (.ofNat 0))) .lf))) (some (.int .u8 (.ofNat 0))) (.nd (.nd (.nd .lf (some (.int .u8
  (.ofNat 0))) .lf) (some (.int .u8 (.ofNat 0))) (.nd .lf (some (.int .u8 (.ofNat 0))) .lf)) (some (.int .u8 (.ofNat 0))) (.nd (.nd .lf (some (.int .u8 (.ofNat 0))) .lf) (some
  (.int .u8 (.ofNat 0))) (.nd .lf (some (.int .u8 (.ofNat 0))) .lf))))) (some (.int .u8 (.ofNat 0))) (.nd (.nd (.nd (.nd (.nd .lf (some (.int .u8 (.ofNat 0))) .lf) (some (.int .u8
  (.ofNat 0))) (.nd .lf (some (.int .u8 (.ofNat 0))) .lf)) (some (.int .u8 (.ofNat 0))) (.nd (.nd .lf (some (.int .u8 (.ofNat 0))) .lf) (some (.int .u8 (.ofNat 0))) (.nd .lf (some
  (.int .u8 (.ofNat 0))) .lf))) (some (.int .u8 (.ofNat 0))) (.nd (.nd (.nd .lf (some (.int .u8 (.ofNat 0))) .lf) (some (.int .u8 (.ofNat 0))) (.nd .lf (some (.int .u8 (.ofNat 0)))
  .lf)) (some (.int .u8 (.ofNat 0))) (.nd (.nd .lf (some (.int .u8 (.ofNat 0))) .lf) (some (.int .u8 (.ofNat 0))) (.nd .lf (some (.int .u8 (.ofNat 0))) .lf)))) (some (.int .u8
  (.ofNat 1))) (.nd (.nd (.nd (.nd .lf (some (.int .u8 (.ofNat 0))) .lf) (some (.int .u8 (.ofNat 0))) (.nd .lf (some (.int .u8 (.ofNat 0))) .lf)) (some (.int .u8 (.ofNat 0))) (.nd
  (.nd .lf (some (.int .u8 (.ofNat 0))) .lf) (some (.int .u8 (.ofNat 0))) (.nd .lf (some (.int .u8 (.ofNat 0))) .lf))) (some (.int .u8 (.ofNat 0))) (.nd (.nd (.nd .lf (some (.int
  .u8 (.ofNat 0))) .lf) (some (.int .u8 (.ofNat 0))) (.nd .lf (some (.int .u8 (.ofNat 0))) .lf)) (some (.int .u8 (.ofNat 0))) (.nd (.nd .lf (some (.int .u8 (.ofNat 0))) .lf) (some
  (.int .u8 (.ofNat 0))) (.nd .lf (some (.int .u8 (.ofNat 0))) .lf)))))) (some (.int .u8 (.ofNat 0))) (.nd (.nd (.nd (.nd (.nd (.nd .lf (some (.int .u8 (.ofNat 0))) .lf) (some
  (.int .u8 (.ofNat 0))) (.nd .lf (some (.int .u8 (.ofNat 0))) .lf)) (some (.int .u8 (.ofNat 0))) (.nd (.nd .lf (some (.int .u8 (.ofNat 0))) .lf) (some (.int .u8 (.ofNat 0))) (.nd
  .lf (some (.int .u8 (.ofNat 0))) .lf))) (some (.int .u8 (.ofNat 0))) (.nd (.nd (.nd .lf (some (.int .u8 (.ofNat 0))) .lf) (some (.int .u8 (.ofNat 0))) (.nd .lf (some (.int .u8
  (.ofNat 0))) .lf)) (some (.int .u8 (.ofNat 0))) (.nd (.nd .lf (some (.int .u8 (.ofNat 0))) .lf) (some (.int .u8 (.ofNat 0))) (.nd .lf (some (.int .u8 (.ofNat 0))) .lf)))) (some
  (.int .u8 (.ofNat 1))) (.nd (.nd (.nd (.nd .lf (some (.int .u8 (.ofNat 0))) .lf) (some (.int .u8 (.ofNat 0))) (.nd .lf (some (.int .u8 (.ofNat 0))) .lf)) (some (.int .u8 (.ofNat
  0))) (.nd (.nd .lf (some (.int .u8 (.ofNat 0))) .lf) (some (.int .u8 (.ofNat 0))) (.nd .lf (some (.int .u8 (.ofNat 0))) .lf))) (some (.int .u8 (.ofNat 0))) (.nd (.nd (.nd .lf
  (some (.int .u8 (.ofNat 0))) .lf) (some (.int .u8 (.ofNat 0))) (.nd .lf (some (.int .u8 (.ofNat 0))) .lf)) (some (.int .u8 (.ofNat 0))) (.nd (.nd .lf (some (.int .u8 (.ofNat 0)))
  .lf) (some (.int .u8 (.ofNat 0))) (.nd .lf (some (.int .u8 (.ofNat 0))) .lf))))) (some (.int .u8 (.ofNat 0))) (.nd (.nd (.nd (.nd (.nd .lf (some (.int .u8 (.ofNat 0))) .lf) (some
  (.int .u8 (.ofNat 0))) (.nd .lf (some (.int .u8 (.ofNat 0))) .lf)) (some (.int .u8 (.ofNat 0))) (.nd (.nd .lf (some (.int .u8 (.ofNat 0))) .lf) (some (.int .u8 (.ofNat 0))) (.nd
  .lf (some (.int .u8 (.ofNat 0))) .lf))) (some (.int .u8 (.ofNat 0))) (.nd (.nd (.nd .lf (some (.int .u8 (.ofNat 0))) .lf) (some (.int .u8 (.ofNat 0))) (.nd .lf (some (.int .u8
  (.ofNat 0))) .lf)) (some (.int .u8 (.ofNat 0))) (.nd (.nd .lf (some (.int .u8 (.ofNat 0))) .lf) (some (.int .u8 (.ofNat 0))) (.nd .lf (some (.int .u8 (.ofNat 0))) .lf)))) (some
  (.int .u8 (.ofNat 0))) (.nd (.nd (.nd (.nd .lf (some (.int .u8 (.ofNat 0))) .lf) (some (.int .u8 (.ofNat 0))) (.nd .lf (some (.int .u8 (.ofNat 0))) .lf)) (some (.int .u8 (.ofNat
  0))) (.nd (.nd .lf (some (.int .u8 (.ofNat 0))) .lf) (some (.int .u8 (.ofNat 0))) (.nd .lf (some (.int .u8 (.ofNat 0))) .lf))) (some (.int .u8 (.ofNat 0))) (.nd (.nd (.nd .lf
  (some (.int .u8 (.ofNat 0))) .lf) (some (.int .u8 (.ofNat 0))) (.nd .lf (some (.int .u8 (.ofNat 0))) .lf)) (some (.int .u8 (.ofNat 0))) (.nd (.nd .lf (some (.int .u8 (.ofNat 0)))
  .lf) (some (.int .u8 (.ofNat 0))) (.nd .lf (some (.int .u8 (.ofNat 0))) .lf))))))))
theorem asciiT_eq : PT.setL .lf 0 asciiL = asciiT := by kernel_rfl
def st0 : List (Nat × TypeId × List AV) := [(3, 577, formsL), (1, 442, firstL), (2, 445, acceptL), (4, 442, asciiL)]
def X : FuncId → Option Ext := fun f => match Nat.beq f 31, Nat.beq f 39, Nat.beq f 144, Nat.beq f 90 with
  | true, _, _, _ => some Ext.count
  | _, true, _, _ => some Ext.same
  | _, _, true, _ => some Ext.indexByte
  | _, _, _, true => some (Ext.makeNoZero 5)
  | _, _, _, _ => none
theorem xMz : ExtAt Tryz.prog 90 (.makeNoZero 5) := ⟨_, 29, by kernel_rfl, extFn_of (fn := Tryz.f90) Tryz.func90 (by decide) rfl rfl rfl⟩
theorem xs_ok : ∀ f x, X f = some x → ExtAt Tryz.prog f x := by
  intro f x h
  by_cases e0 : f = 31
  · subst e0; replace h : some Ext.count = some x := h; cases h; exact extFn_of (fn := Tryz.f31) Tryz.func31 (by decide) rfl rfl rfl
  by_cases e1 : f = 39
  · subst e1; replace h : some Ext.same = some x := h; cases h; exact extFn_of (fn := Tryz.f39) Tryz.func39 (by decide) rfl rfl rfl
  by_cases e2 : f = 144
  · subst e2; replace h : some Ext.indexByte = some x := h; cases h; exact extFn_of (fn := Tryz.f144) Tryz.func144 (by decide) rfl rfl rfl
  by_cases e3 : f = 90
  · subst e3; replace h : some (Ext.makeNoZero 5) = some x := h; cases h; exact xMz
  simp [X, e0, e1, e2, e3] at h
theorem names_ok : (Tryz.prog.funcs.toList.all fun f => !(f.name == "runtime.NumGoroutine")) = true := by kernel_rfl
theorem env_ok {τ : Nat → Value} (h1 : Plain τ) (h2 : ∀ n b, τ n ≠ .bool b) : Env Tryz.prog τ X where
  plain := h1
  nb := h2
  name := fun f fn h e => by
    have := List.all_eq_true.1 names_ok fn (Array.mem_toList_iff.2 (Array.mem_of_getElem? h))
    simp [e] at this
  mixed := by kernel_rfl
  ext := fun f x hx => ext_ok (xs_ok f x hx)
end
end Go.Proofs.YtnonpemcndfbkaaGreatDoor
