/- The tables of this seat are in order. -/
import Derived.Test.YtakkhdakmmpggaaGreatDoorRRTab
import Derived.Test.YtakkhdakmmpggaaGreatDoorRRShelf

/- The seat's tables are in order. -/
namespace Go.Proofs.YtakkhdakmmpggaaGreatDoorRR
open Go Go.Tv Go.Proofs
set_option maxRecDepth 100000

theorem bytesIndex : BytesIndex Tryz.prog 169 9 where
  enter := Tryz.call169
  at_ a1 a2 n c1 k c2 xs ys m w := Tryz.bytes_Index_at a1 a2 n c1 k c2 xs ys m w
  none_ := Tryz.bytes_Index_none
  nil_ := Tryz.bytes_Index_nil
theorem stringsIndex : StringsIndex Tryz.prog 246 9 where
  enter := Tryz.call246
  at_ s sub m w h1 h2 := Tryz.strings_Index s sub m w h1 h2
theorem bytesIndexByte : BytesIndexByte Tryz.prog 163 where
  enter := Tryz.call163
  at_ b o n c xs cv w h1 h2 := Tryz.bytes_IndexByte b o n c xs cv w h1 h2
  nil_ := Tryz.bytes_IndexByte_nil
theorem cloneNil : CloneNil Tryz.prog 25 9 1 where
  enter := Tryz.call25
  nil_ := Tryz.slices_Clone_string_nil
  zero_ := Tryz.slices_Clone_string_zero

theorem fit0 (m : Int) : fitAll Tryz.prog (tab m) 70 0 = true := by kernel_rfl
theorem fit1 (m : Int) : fitAll Tryz.prog (tab m) 70 70 = true := by kernel_rfl
theorem fit2 (m : Int) : fitAll Tryz.prog (tab m) 70 140 = true := by kernel_rfl
theorem fit3 (m : Int) : fitAll Tryz.prog (tab m) 69 210 = true := by kernel_rfl

theorem envOk (m : Int) : EnvOk Tryz.prog (E m) := by
  refine env_ok (by kernel_rfl) (fun g hg hok fn hfn => ?_) (fun f g h => ?_) (fun f g h => ?_)
  · have hg' : g < 279 := hg
    rcases Nat.lt_or_ge g 70 with h | h
    · exact fitAll_at (fit0 m) g (by omega) (by omega) hok fn hfn
    rcases Nat.lt_or_ge g 140 with h | h
    · exact fitAll_at (fit1 m) g (by omega) (by omega) hok fn hfn
    rcases Nat.lt_or_ge g 210 with h | h
    · exact fitAll_at (fit2 m) g (by omega) (by omega) hok fn hfn
    exact fitAll_at (fit3 m) g (by omega) (by omega) hok fn hfn
  · have hm : LaidInt (E m) 9 := ⟨m, rfl⟩
    have h1 := lookN_mem h
    have h2 : (f, g) ∈ tExt := h1
    simp only [tExt, List.mem_cons, List.mem_nil_iff, or_false, Prod.mk.injEq] at h2
    rcases h2 with ⟨rfl, rfl⟩ | ⟨rfl, rfl⟩ | ⟨rfl, rfl⟩
    · exact bytesIndex_sound bytesIndex hm
    · exact stringsIndex_sound stringsIndex hm
    · exact bytesIndexByte_sound bytesIndexByte
  · have h1 := lookN_mem h
    have h2 : (f, g) ∈ tPext := h1
    simp only [tPext, List.mem_cons, List.mem_nil_iff, or_false, Prod.mk.injEq] at h2
    obtain ⟨rfl, rfl⟩ := h2
    exact cloneNil_sound cloneNil
end Go.Proofs.YtakkhdakmmpggaaGreatDoorRR
