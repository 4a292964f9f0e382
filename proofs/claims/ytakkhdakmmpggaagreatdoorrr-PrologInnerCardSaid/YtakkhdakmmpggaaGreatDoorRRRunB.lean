/- The law says yes at each of thirty-two numbers: by the kernel's own run. -/
import Derived.Test.YtakkhdakmmpggaaGreatDoorRRTab

/- Runs for a quarter of a sixty-fourth of the numbers each. -/
namespace Go.Proofs.YtakkhdakmmpggaaGreatDoorRR
open Go Go.Tv
set_option maxRecDepth 100000
theorem runs4 (m : Int) : chkNs m [8, 72, 136, 200, 9, 73, 137, 201] = true := by kernel_rfl
theorem runs5 (m : Int) : chkNs m [10, 74, 138, 202, 11, 75, 139, 203] = true := by kernel_rfl
theorem runs6 (m : Int) : chkNs m [12, 76, 140, 204, 13, 77, 141, 205] = true := by kernel_rfl
theorem runs7 (m : Int) : chkNs m [14, 78, 142, 206, 15, 79, 143, 207] = true := by kernel_rfl
end Go.Proofs.YtakkhdakmmpggaaGreatDoorRR
