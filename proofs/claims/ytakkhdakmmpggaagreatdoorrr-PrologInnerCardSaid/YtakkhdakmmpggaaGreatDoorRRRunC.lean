/- The law says yes at each of thirty-two numbers: by the kernel's own run. -/
import Derived.Test.YtakkhdakmmpggaaGreatDoorRRTab

/- Runs for a quarter of a sixty-fourth of the numbers each. -/
namespace Go.Proofs.YtakkhdakmmpggaaGreatDoorRR
open Go Go.Tv
set_option maxRecDepth 100000
theorem runs8 (m : Int) : chkNs m [16, 80, 144, 208, 17, 81, 145, 209] = true := by kernel_rfl
theorem runs9 (m : Int) : chkNs m [18, 82, 146, 210, 19, 83, 147, 211] = true := by kernel_rfl
theorem runs10 (m : Int) : chkNs m [20, 84, 148, 212, 21, 85, 149, 213] = true := by kernel_rfl
theorem runs11 (m : Int) : chkNs m [22, 86, 150, 214, 23, 87, 151, 215] = true := by kernel_rfl
end Go.Proofs.YtakkhdakmmpggaaGreatDoorRR
