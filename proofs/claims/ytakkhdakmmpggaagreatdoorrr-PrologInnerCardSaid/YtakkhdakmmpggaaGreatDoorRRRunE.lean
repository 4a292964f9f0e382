/- The law says yes at each of thirty-two numbers: by the kernel's own run. -/
import Derived.Test.YtakkhdakmmpggaaGreatDoorRRTab

/- Runs for a quarter of a sixty-fourth of the numbers each. -/
namespace Go.Proofs.YtakkhdakmmpggaaGreatDoorRR
open Go Go.Tv
set_option maxRecDepth 100000
theorem runs16 (m : Int) : chkNs m [32, 96, 160, 224, 33, 97, 161, 225] = true := by kernel_rfl
theorem runs17 (m : Int) : chkNs m [34, 98, 162, 226, 35, 99, 163, 227] = true := by kernel_rfl
theorem runs18 (m : Int) : chkNs m [36, 100, 164, 228, 37, 101, 165, 229] = true := by kernel_rfl
theorem runs19 (m : Int) : chkNs m [38, 102, 166, 230, 39, 103, 167, 231] = true := by kernel_rfl
end Go.Proofs.YtakkhdakmmpggaaGreatDoorRR
