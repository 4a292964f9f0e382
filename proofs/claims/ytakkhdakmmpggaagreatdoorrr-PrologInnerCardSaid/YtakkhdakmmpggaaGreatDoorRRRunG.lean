/- The law says yes at each of thirty-two numbers: by the kernel's own run. -/
import Derived.Test.YtakkhdakmmpggaaGreatDoorRRTab

/- Runs for a quarter of a sixty-fourth of the numbers each. -/
namespace Go.Proofs.YtakkhdakmmpggaaGreatDoorRR
open Go Go.Tv
set_option maxRecDepth 100000
theorem runs24 (m : Int) : chkNs m [48, 112, 176, 240, 49, 113, 177, 241] = true := by kernel_rfl
theorem runs25 (m : Int) : chkNs m [50, 114, 178, 242, 51, 115, 179, 243] = true := by kernel_rfl
theorem runs26 (m : Int) : chkNs m [52, 116, 180, 244, 53, 117, 181, 245] = true := by kernel_rfl
theorem runs27 (m : Int) : chkNs m [54, 118, 182, 246, 55, 119, 183, 247] = true := by kernel_rfl
end Go.Proofs.YtakkhdakmmpggaaGreatDoorRR
