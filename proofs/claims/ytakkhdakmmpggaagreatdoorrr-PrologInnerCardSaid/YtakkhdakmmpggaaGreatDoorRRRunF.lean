/- The law says yes at each of thirty-two numbers: by the kernel's own run. -/
import Derived.Test.YtakkhdakmmpggaaGreatDoorRRTab

/- Runs for a quarter of a sixty-fourth of the numbers each. -/
namespace Go.Proofs.YtakkhdakmmpggaaGreatDoorRR
open Go Go.Tv
set_option maxRecDepth 100000
theorem runs20 (m : Int) : chkNs m [40, 104, 168, 232, 41, 105, 169, 233] = true := by kernel_rfl
theorem runs21 (m : Int) : chkNs m [42, 106, 170, 234, 43, 107, 171, 235] = true := by kernel_rfl
theorem runs22 (m : Int) : chkNs m [44, 108, 172, 236, 45, 109, 173, 237] = true := by kernel_rfl
theorem runs23 (m : Int) : chkNs m [46, 110, 174, 238, 47, 111, 175, 239] = true := by kernel_rfl
end Go.Proofs.YtakkhdakmmpggaaGreatDoorRR
