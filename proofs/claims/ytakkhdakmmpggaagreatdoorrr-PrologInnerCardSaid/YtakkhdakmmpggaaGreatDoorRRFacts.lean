/- The closed facts of the row. -/
import Derived.Test.YtakkhdakmmpggaaGreatDoorRRTab
import Derived.Test.YtakkhdakmmpggaaGreatDoorRRTvc

/- The row's closed facts. -/
namespace Go.Proofs.YtakkhdakmmpggaaGreatDoorRR
open Go Go.Tv Go.Proofs
set_option maxRecDepth 100000
def tLeads : List (List Nat) := [[], [], [1], [4, 5, 6, 7], [8, 9, 10], [12, 11, 14, 11, 15, 11, 16, 11, 18, 11, 14, 11, 19], [], [4, 5], [20, 20, 21, 22], [23, 23, 24, 25, 26], [27], [], [13], [29, 30, 31, 28], [32], [33], [17], [34, 35, 36], [37, 19], [38], [], [], [], [], [39, 40], [], [42, 43], [44, 45, 24], [46, 47], [48, 49], [50], [], [51, 37], [38, 52, 53, 37, 54, 37], [], [], [55, 56, 57, 58, 59], [60], [61], [62], [41], [63], [64, 65], [], [], [66], [67, 60], [68, 37, 38], [69], [71, 70, 72, 74, 73, 76, 75], [77, 78, 78], [79], [37], [81, 82], [83], [], [37, 84, 85, 86, 87, 88, 89, 84], [90, 91], [93, 92, 90, 94, 95, 96, 35], [97, 98, 98, 99, 100], [], [], [], [101, 42], [102, 103, 104, 105, 106, 105, 107, 107, 108], [], [], [38], [37, 67, 37, 37, 109], [110], [], [], [], [111], [111], [77, 112], [113, 112], [114], [115, 116, 116], [37, 19, 19, 80], [19, 117, 118], [119, 120], [121], [122, 123, 124, 124], [38], [84, 125, 126, 84, 125, 117, 84, 118, 127], [128, 84, 128, 125, 129, 128, 84, 84, 125, 130, 131, 54, 132, 128, 133, 128, 125, 129, 134], [128, 125, 53, 132, 132, 37, 128, 135, 127, 134], [128, 125, 129, 128, 131, 136, 134], [128, 125, 53, 128, 125, 137, 134], [], [55], [], [], [138], [139, 140, 141], [142], [], [], [], [144, 143, 145, 147, 146], [148, 149], [150], [151], [152, 153, 154, 155, 156], [154], [], [157, 153, 155, 153, 156, 158, 159], [161, 160, 162], [163], [], [], [164], [165, 77], [], [], [], [166, 167], [38, 129, 168, 37, 169], [170], [119, 170], [171], [38, 38], [52, 172], [52, 173, 109], [127], [174], [], [37, 127], [175, 82], [176, 177], [127], [37, 38], [84, 127], [37, 133], [53, 178, 179, 178, 180], [83], [163, 181, 37], [], [182], [183, 184, 185], [186, 187, 185], [188], [], [], [], [], [25], [189], [190], [191], [192], [193, 193, 154], [194], [106, 103], [194], [], [194, 195], [77, 196, 157, 153, 197, 198, 155, 197, 156], [199], [200], [201], [157, 153, 153, 153, 156], [202], [103, 203, 103, 204, 205], [], [206], [67, 169], [50], [163, 61, 208, 163, 61, 204, 208, 163, 61, 209], [211, 210], [212, 213], [215, 214], [], [129], [218, 119, 218, 120], [219, 220, 214], [221, 222, 153, 223, 224, 156], [37], [225, 226, 227, 228, 37, 227, 129], [229, 225, 226, 37, 230], [231], [], [42, 232, 39], [234], [], [235, 237, 236], [29, 30, 28], [238, 238], [], [189], [151, 205, 151, 204, 205, 239], [], [], [240], [241], [], [194, 242], [], [243], [244, 245, 246], [110], [], [], [], [], [207], [246], [], [247], [], [], [], [], [109], [216, 217], [248], [249, 103], [250], [251], [252], [207, 252], [253], [213, 255], [194], [], [], [229, 37, 37, 229], [171, 120], [], [219, 220, 214], [192, 256, 257, 258, 259, 192, 260, 205], [233], [101, 42, 261], [42, 26], [263], [], [38], [], [264], [], [], [265], [115, 116], [266, 77], [266, 267, 246], [191], [], [268], [], [], [103], [163, 269, 38, 254], [246, 254], [38, 38, 193, 270], [], [163, 260, 203, 271, 163, 204, 208], [], [], [], [272], [262], [110], [273, 274, 276], [], [], [], [], [277], [174], [170], [278], [], [], [275], [268], [216, 270], [171], [], [], [], [], [], [], [], [], [], [], [], [], [], [], [], [], [], [], [], [], [], [], [], [], [], [], [], [], [], [], [], [], [], [], [], [], [], [], [], [], [], [], [], [], [], [], [], []]
def tClosure : List Nat := [3, 4, 8, 20, 21, 22, 9, 23, 24, 39, 62, 40, 41, 63, 101, 148, 189, 149, 190, 42, 64, 102, 150, 191, 151, 192, 205, 204, 239, 264, 103, 104, 152, 193, 154, 106, 153, 194, 240, 155, 156, 105, 107, 157, 195, 241, 158, 77, 114, 196, 197, 242, 265, 198, 159, 199, 243, 115, 116, 108, 161, 201, 110, 160, 200, 244, 266, 245, 267, 246, 162, 65, 25, 26, 43, 10, 27, 44, 45, 66, 5, 12, 13, 29, 48, 69, 49, 71, 70, 72, 74, 111, 73, 76, 113, 165, 112, 164, 203, 75, 30, 50, 78, 31, 28, 46, 67, 38, 61, 60, 47, 68, 37, 109, 163, 202, 11, 14, 32, 51, 79, 19, 80, 117, 166, 206, 207, 167, 169, 208, 209, 247, 118, 129, 175, 218, 250, 119, 170, 211, 210, 120, 82, 121, 171, 212, 213, 168, 15, 33, 52, 53, 81, 54, 83, 122, 123, 172, 215, 216, 248, 268, 277, 217, 249, 214, 124, 173, 16, 17, 34, 35, 36, 55, 56, 84, 85, 125, 127, 126, 174, 86, 128, 130, 176, 219, 251, 220, 252, 269, 254, 270, 177, 221, 222, 253, 223, 255, 224, 131, 132, 133, 134, 87, 135, 178, 179, 225, 226, 227, 229, 228, 180, 230, 88, 136, 89, 137, 181, 231, 256, 260, 272, 271, 278, 257, 258, 259, 57, 90, 91, 58, 93, 92, 94, 138, 95, 139, 182, 140, 183, 232, 233, 261, 262, 184, 234, 185, 141, 186, 235, 263, 273, 274, 275, 276, 237, 236, 187, 96, 142, 188, 238, 59, 97, 98, 99, 100, 144, 143, 145, 147, 146, 18, 6, 7]
theorem leads : Tryz.prog.funcs.toList.map Tryz.prog.leadsTo = tLeads := by kernel_rfl
theorem closure3 : Tryz.prog.closure 3 = tClosure := closure_eq leads (by kernel_rfl)
theorem inPlace3 : Tryz.prog.inPlace 3 = Rows.prologInnerRow.inPlace := by unfold Program.inPlace; rw [closure3]; kernel_rfl
theorem unfollowed3 : Tryz.prog.unfollowed 3 = true := by unfold Program.unfollowed; rw [closure3]; kernel_rfl
theorem varsNamed3 : Tryz.prog.varsNamed 3 = Rows.prologInnerRow.named := by unfold Program.varsNamed; rw [closure3]; kernel_rfl
end Go.Proofs.YtakkhdakmmpggaaGreatDoorRR

/- The row's closed facts, joined. -/
namespace Go.Proofs.YtakkhdakmmpggaaGreatDoorRR
open Go Go.Tv Go.Proofs
set_option maxRecDepth 100000
theorem j2 : laidOutB Tryz.prog = true := by kernel_rfl
theorem j3 : mapsRowed Tryz.prog = true := by kernel_rfl
theorem j7 : (Tryz.prog.stops == []) = true := by kernel_rfl
theorem j9 : (Tryz.prog.stopKnobs == []) = true := by kernel_rfl
theorem j23 : (Rows.prologInnerRow.plainKeys == Tryz.prog.plainKeys) = true := by kernel_rfl
theorem j25 : Tryz.prog.stopsHeard = true := by kernel_rfl
theorem j26 : Tryz.prog.mayEnter = true := by kernel_rfl
theorem j27 : (Rows.prologInnerRow.lifted == Tryz.prog.liftsFinal) = true := by kernel_rfl
theorem j28 : (Tryz.prog.make == some Rows.prologInnerRow.make) = true := by kernel_rfl
theorem facts : joinedFacts Tryz.prog 3 Tryz.f3 Rows.prologInnerSpec Rows.prologInnerRow = true :=
  joinedFacts_of (by kernel_rfl) j2 j3 (by kernel_rfl) (by kernel_rfl) (by kernel_rfl) j7 (by kernel_rfl) j9 inPlace3 unfollowed3 (recurses_of unfollowed3) varsNamed3
    (by kernel_rfl) (by kernel_rfl) (by kernel_rfl) (by kernel_rfl) (by kernel_rfl) (by kernel_rfl) (by kernel_rfl) (by kernel_rfl) (by kernel_rfl) j23 (by kernel_rfl) j25 j26 j27 j28 (by kernel_rfl) (by kernel_rfl) (by kernel_rfl) (by kernel_rfl)
theorem factsUpto : joinedFacts Tryz.prog 3 Tryz.f3 (Rows.OpenSpec.upto Rows.prologInnerSpec).bare Rows.prologInnerUptoRow = true :=
  joinedFacts_of (by kernel_rfl) j2 j3 (by kernel_rfl) (by kernel_rfl) (by kernel_rfl) j7 (by kernel_rfl) j9 inPlace3 unfollowed3 (recurses_of unfollowed3) varsNamed3
    (by kernel_rfl) (by kernel_rfl) (by kernel_rfl) (by kernel_rfl) (by kernel_rfl) (by kernel_rfl) (by kernel_rfl) (by kernel_rfl) (by kernel_rfl) j23 (by kernel_rfl) j25 j26 j27 j28 (by kernel_rfl) (by kernel_rfl) (by kernel_rfl) (by kernel_rfl)
end Go.Proofs.YtakkhdakmmpggaaGreatDoorRR
