/- The law says yes at each of thirty-two numbers: by the kernel's own run. -/
import Derived.Test.YtakkhdakmmpggaaGreatDoorRRTab

/- Runs for a quarter of a sixty-fourth of the numbers each. -/
namespace Go.Proofs.YtakkhdakmmpggaaGreatDoorRR
open Go Go.Tv
set_option maxRecDepth 100000
theorem runs0 (m : Int) : chkNs m [0, 64, 128, 192, 1, 65, 129, 193] = true := by kernel_rfl
theorem runs1 (m : Int) : chkNs m [2, 66, 130, 194, 3, 67, 131, 195] = true := by kernel_rfl
theorem runs2 (m : Int) : chkNs m [4, 68, 132, 196, 5, 69, 133, 197] = true := by kernel_rfl
theorem runs3 (m : Int) : chkNs m [6, 70, 134, 198, 7, 71, 135, 199] = true := by kernel_rfl
end Go.Proofs.YtakkhdakmmpggaaGreatDoorRR
