/- The law says yes at each of thirty-two numbers: by the kernel's own run. -/
import Derived.Test.YtakkhdakmmpggaaGreatDoorRRTab

/- Runs for a quarter of a sixty-fourth of the numbers each. -/
namespace Go.Proofs.YtakkhdakmmpggaaGreatDoorRR
open Go Go.Tv
set_option maxRecDepth 100000
theorem runs12 (m : Int) : chkNs m [24, 88, 152, 216, 25, 89, 153, 217] = true := by kernel_rfl
theorem runs13 (m : Int) : chkNs m [26, 90, 154, 218, 27, 91, 155, 219] = true := by kernel_rfl
theorem runs14 (m : Int) : chkNs m [28, 92, 156, 220, 29, 93, 157, 221] = true := by kernel_rfl
theorem runs15 (m : Int) : chkNs m [30, 94, 158, 222, 31, 95, 159, 223] = true := by kernel_rfl
end Go.Proofs.YtakkhdakmmpggaaGreatDoorRR
