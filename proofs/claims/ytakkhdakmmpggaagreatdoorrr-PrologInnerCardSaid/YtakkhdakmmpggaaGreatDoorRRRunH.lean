/- The law says yes at each of thirty-two numbers: by the kernel's own run. -/
import Derived.Test.YtakkhdakmmpggaaGreatDoorRRTab

/- Runs for a quarter of a sixty-fourth of the numbers each. -/
namespace Go.Proofs.YtakkhdakmmpggaaGreatDoorRR
open Go Go.Tv
set_option maxRecDepth 100000
theorem runs28 (m : Int) : chkNs m [56, 120, 184, 248, 57, 121, 185, 249] = true := by kernel_rfl
theorem runs29 (m : Int) : chkNs m [58, 122, 186, 250, 59, 123, 187, 251] = true := by kernel_rfl
theorem runs30 (m : Int) : chkNs m [60, 124, 188, 252, 61, 125, 189, 253] = true := by kernel_rfl
theorem runs31 (m : Int) : chkNs m [62, 126, 190, 254, 63, 127, 191, 255] = true := by kernel_rfl
end Go.Proofs.YtakkhdakmmpggaaGreatDoorRR
