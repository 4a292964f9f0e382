/- WHAT IS PROVED: narthexlaw29.PrologInner answers true for every number of one byte, and the number reads behind the call as before; ON THE CONDITION that the listed package-level variables hold what the program's text lays (the card ties them to it). Every number is run by the kernel, by a reckoning that is proved to follow the program (the texts Tva, Tvb, Tvc). -/
import Derived.Test.YtakkhdakmmpggaaGreatDoorRRTab
import GoSem.PinnedTables
import Derived.Lib.LaidCaseMet
import Derived.Lib.LaidIn
import Derived.WideWitness
import Derived.Test.YtakkhdakmmpggaaGreatDoorRREnv
import Derived.Test.YtakkhdakmmpggaaGreatDoorRRCards
import Derived.Test.YtakkhdakmmpggaaGreatDoorRRTie
import Derived.WalkKit
import Derived.ProofKit
import Derived.OpenShut
import Derived.MakeChecks
import Derived.HandedShaped
import Derived.Shelf.Vars
import Derived.Deep.DeepHandedRow
import Derived.Deep.DeepWitnessRowRef
import Derived.Test.YtakkhdakmmpggaaGreatDoorRRFacts
import Derived.Test.YtakkhdakmmpggaaGreatDoorRRRunA
import Derived.Test.YtakkhdakmmpggaaGreatDoorRRRunB
import Derived.Test.YtakkhdakmmpggaaGreatDoorRRRunC
import Derived.Test.YtakkhdakmmpggaaGreatDoorRRRunD
import Derived.Test.YtakkhdakmmpggaaGreatDoorRRRunE
import Derived.Test.YtakkhdakmmpggaaGreatDoorRRRunF
import Derived.Test.YtakkhdakmmpggaaGreatDoorRRRunG
import Derived.Test.YtakkhdakmmpggaaGreatDoorRRRunH

/- A world in which every listed variable holds what its text lays. -/
namespace Go.Tv
open Go Go.Proofs Go.Lib Go.RowKit
section
variable {H : Type} {enc : TypeId × Value → H} {P : Program} {w : World} {base : Nat} {sp : Nat → Bool} {held : Bool}

/-- the types of unicode.CaseRanges -/
structure CaseTy (P : Program) (s r u a i : TypeId) : Prop where
  us : P.underlying s = some (.slice r)
  ur : ∃ f0 f1 f2 : Field, P.underlying r = some (.struct #[f0, f1, f2]) ∧ f0.offset = 0 ∧ f0.type = u ∧ f1.offset = 1 ∧ f1.type = u ∧ f2.offset = 2 ∧ f2.type = a
  uu : P.underlying u = some (.int .u32)
  ua : P.underlying a = some (.array 3 i)
  ui : P.underlying i = some (.int .i32)
  cu : P.cellsOf u = 1
  ca : P.cellsOf a = 3
  ci : P.cellsOf i = 1
  cr : P.cellsOf r = 5

theorem caseRow_reads' {s r u a i : TypeId} (L : CaseTy P s r u a i) (x : CaseRow) (hw : rowWf x = true) (fuel : Nat) :
    DataW.trod enc P w base sp held (fuel + 3) r (cells5 x) = some (rowData x, []) := by
  simp only [rowWf, Bool.and_eq_true] at hw
  obtain ⟨⟨⟨⟨w0, w1⟩, w2⟩, w3⟩, w4⟩ := hw
  have r3 : List.range 3 = [0, 1, 2] := rfl
  obtain ⟨f0, f1, f2, hu, a1, a2, b1, b2, c1, c2⟩ := L.ur
  simp [DataW.trod, hu, L.uu, L.ua, L.ui, L.cu, L.ca, L.ci, L.cr, cells5, rowData, w0, w1, w2, w3, w4, r3, a1, a2, b1, b2, c1, c2]

theorem caseSlice_reads' {s r u a i : TypeId} (L : CaseTy P s r u a i) {R oR : Nat} {T : Array CaseRow} (hT : CaseTab R oR T w)
    (hwf : ∀ i, i < T.size → rowWf (T.getD i (0, 0, 0, 0, 0)) = true) (hn : T.size ≤ maxLen) (fuel : Nat) :
    DataW.trod (fun _ => ()) P w 0 (fun _ => true) false (fuel + 4) s [.slice (some ⟨R, oR, none⟩) T.size T.size] =
      some (.slice ((List.range T.size).map fun i => rowData (T.getD i (0, 0, 0, 0, 0))) [], MemPlace.row ⟨R, oR, none⟩ (T.size * 5)) := by
  have helem : ∀ i ∈ List.range T.size, (w.cells? 0 ((⟨R, oR, none⟩ : Addr).add (i * 5)) 5).bind (DataW.trod (fun _ => ()) P w 0 (fun _ => true) false (fuel + 3) r) = some ((fun i => ((rowData (T.getD i (0, 0, 0, 0, 0)) : DataW Unit), ([] : List MemPlace))) i) := by
    intro i hi
    have hi' := List.mem_range.1 hi
    rw [case_cells5 hT i hi']
    exact caseRow_reads' L _ (hwf i hi') fuel
  show DataW.trod _ _ _ _ _ _ ((fuel + 3) + 1) _ _ = _
  unfold DataW.trod
  simp only [L.us, L.cr]
  rw [if_pos ⟨Nat.zero_le _, Nat.le_refl _, hn⟩, mapM_some _ _ _ helem]
  simp [Function.comp_def]

theorem caseData_eq : Pinned.caseRanges = caseData := by kernel_rfl

/-- unicode.CaseRanges, listed: its cells are not reckoned. -/
theorem laidIn_case {s r u a i : TypeId} (L : CaseTy P s r u a i) {g R : Nat} {t : TypeId} (hgR : g ≠ R) (hg : P.globalNamed "unicode.CaseRanges" = some g) (hy : (P.globals[g]?).map (·.type) = some s)
    (hvar : w.heap[g]? = some (.cells #[.slice (some ⟨R, 0, none⟩) caseA.size caseA.size] s (0, 0)))
    (hblk : w.heap[R]? = some (.cells caseCells5 t (0, 0))) : LaidIn P w [("unicode.CaseRanges", Pinned.caseRanges)] [g, R] := by
  rw [caseData_eq]
  have hT := caseTab_of_block hblk
  have hread := caseSlice_reads' L hT caseA_wf (by rw [caseA_size]; unfold maxLen; omega) 0
  rw [case_rows_data] at hread
  refine LaidIn.one [g, R] hg hy (cs := #[.slice (some ⟨R, 0, none⟩) caseA.size caseA.size]) (by simp [World.var?, hg, hvar]) hread ?_ ?_ ?_
  · refine List.nodup_append.2 ⟨row_nodup _ _, row_nodup _ _, ?_⟩
    intro a ha b hb e
    obtain ⟨i, _, rfl⟩ := MemPlace.mem_row.1 ha
    obtain ⟨j, _, rfl⟩ := MemPlace.mem_row.1 hb
    simp at e
    exact hgR e.1
  · intro b off hp
    rcases List.mem_append.1 hp with hp | hp
    · obtain ⟨i, hi, e⟩ := MemPlace.mem_row.1 hp
      cases e
      refine ⟨⟨_, _, hvar⟩, fun u v hc => ?_⟩
      obtain rfl : i = 0 := by simpa using hi
      rw [Lib.cell_of_heap hvar] at hc
      simp at hc
    · obtain ⟨i, hi, e⟩ := MemPlace.mem_row.1 hp
      cases e
      refine ⟨⟨_, _, hblk⟩, fun u v hc => ?_⟩
      obtain ⟨c0, c1, c2, c3, c4⟩ := hT (i / 5) (by omega)
      have hi5 : 0 + i = 0 + i / 5 * 5 + i % 5 := by omega
      simp only at hc
      rw [hi5] at hc
      have hm : i % 5 < 5 := Nat.mod_lt _ (by omega)
      match hk : i % 5, hm with
      | 0, _ => rw [hk, Nat.add_zero, c0] at hc; cases hc
      | 1, _ => rw [hk, c1] at hc; cases hc
      | 2, _ => rw [hk, c2] at hc; cases hc
      | 3, _ => rw [hk, c3] at hc; cases hc
      | 4, _ => rw [hk, c4] at hc; cases hc
  · intro x hx
    rcases List.mem_append.1 hx with hx | hx
    · obtain ⟨i, _, rfl⟩ := MemPlace.mem_row.1 hx; exact List.mem_cons_self
    · obtain ⟨i, _, rfl⟩ := MemPlace.mem_row.1 hx; exact List.mem_cons_of_mem _ List.mem_cons_self

/-- Behind a call that has left the old blocks alone, where the results lead nowhere. -/
theorem post_below {f : Func} {s : ChangeSpec} {apart fresh handsOn : Bool} {W W' : World} {args : Array Value} {v : Value} {ds gs : List (DataW H)} {before pa pv : List MemPlace}
    (hW : DataW.Whole enc P f.params.toList s.vars apart W args.toList ds gs before)
    (hres : ∀ (b : Nat) (sp : Nat → Bool) (hd : Bool), DataW.TrodAll enc P W' b sp hd f.resultTypes.toList (v.resultList f.resultTypes.size) (s.fn H (ds ++ gs)).results [])
    (hargs : ∀ sp : Nat → Bool, (∀ p ∈ before, sp p.block = true) → DataW.TrodAll enc P W' 0 sp true f.params.toList args.toList (s.fn H (ds ++ gs)).args pa)
    (hvars : ∀ sp : Nat → Bool, (∀ p ∈ before, sp p.block = true) → DataW.TrodVars enc P W' sp s.vars (s.fn H (ds ++ gs)).vars pv)
    (hps : before = pa ++ pv) (hk : Below W.heap.size W W') : s.post enc P f apart fresh handsOn false W args v W' := by
  have hold : ∀ p ∈ before, (fun b => decide (b < W.heap.size)) p.block = true := fun p hp => by simpa using hW.lt p hp
  refine ⟨ds, gs, before, [], pa, pv, hW, hres _ _ _, hargs _ hold, hvars _ hold, hk.frame _, fun h => nomatch h⟩
end
end Go.Tv

/- The law, for every number; the row; the card. -/
namespace Go.Proofs.YtakkhdakmmpggaaGreatDoorRR
open Go Go.Tv Go.Proofs Go.ChangeShapes Go.WideShapes Go.ChangeAt Go.RowKit
set_option maxRecDepth 100000

theorem own : ownKnob Tryz.prog.godebug = none := by kernel_rfl

/-! ### what the row's list gives -/
theorem globs {W : World} {m : Int} (hm : W.cell? ⟨9, 0, none⟩ = some (.int .i64 m)) (hL : laidMetH Tryz.prog Rows.prologInnerRow.laid W) : GOk (E m) (Ctx.start W) := by
  rw [Go.MakeChecks.laidMetH_plain _ _ _ (by kernel_rfl)] at hL
  obtain ⟨ps, hl, _, _⟩ := hL
  refine gok_start fun g cs h => ?_
  have h2 : (g, cs) ∈ tGlob m := h
  have put : ∀ {n : String} {d : DataW Unit} {g : Nat} (i : Nat), Tryz.prog.globalNamed n = some g → ((Tryz.prog.globals[g]?).map fun x => flatT Tryz.prog 9 x.type) = some true → Rows.prologInnerRow.laid[i]? = some (n, d) →
      ∃ vs : List Value, (valsD d).map ofVal1 = vs.map ofVal1 ∧ ∀ (j : Nat) (v : Value), vs[j]? = some v → W.cell? ⟨g, j, none⟩ = some v := by
    intro n d g i h1 h2 h3
    obtain ⟨x, hx, hf⟩ := Option.map_eq_some_iff.1 h2
    exact ⟨_, rfl, laid_cells h1 (by rw [hx]; rfl) hf _ ps (List.mem_of_getElem? h3) hl⟩
  simp only [tGlob, List.mem_cons, List.mem_nil_iff, or_false, Prod.mk.injEq] at h2
  rcases h2 with ⟨rfl, rfl⟩ | ⟨rfl, rfl⟩ | ⟨rfl, rfl⟩ | ⟨rfl, rfl⟩ | ⟨rfl, rfl⟩ | ⟨rfl, rfl⟩ | ⟨rfl, rfl⟩ | ⟨rfl, rfl⟩ | ⟨rfl, rfl⟩ | ⟨rfl, rfl⟩
  · refine ⟨[.int .i64 m], rfl, fun j v hj => ?_⟩
    match j, hj with
    | 0, hj => cases hj; exact hm
    | j + 1, hj => simp at hj
  · exact put (n := "narthex/decl.words") 10 (by kernel_rfl) (by kernel_rfl) rfl
  · exact put (n := "narthex/cref.known") 7 (by kernel_rfl) (by kernel_rfl) rfl
  · exact put (n := "unicode/utf8.acceptRanges") 0 (by kernel_rfl) (by kernel_rfl) rfl
  · exact put (n := "narthex/chars.starts") 5 (by kernel_rfl) (by kernel_rfl) rfl
  · exact put (n := "narthex/chars.more") 6 (by kernel_rfl) (by kernel_rfl) rfl
  · exact put (n := "narthex/utf.forms") 1 (by kernel_rfl) (by kernel_rfl) rfl
  · exact put (n := "narthex/atype.kinds") 8 (by kernel_rfl) (by kernel_rfl) rfl
  · exact put (n := "narthex/atype.modes") 9 (by kernel_rfl) (by kernel_rfl) rfl
  · exact put (n := "narthex/chars.documents") 4 (by kernel_rfl) (by kernel_rfl) rfl

/-! ### a world for the witness -/
def flatS {H : Type} : DataW H → List Value
  | .slice ds _ => valsDs ds
  | _ => []
noncomputable def laidWorld (os : Os) : World :=
  let N := (World.settled Tryz.prog os).heap.size
  let w0 := World.holding Tryz.prog os ⟨#[.cells (flatS (H := Unit) Rows.laid_unicode_caseOrbit).toArray 221, .cells Lib.caseCells5 281], #[], []⟩
  let put (h : Array Obj) (g : Nat) (cs : Array Value) : Array Obj := h.modify g fun
    | .cells _ t frozen => .cells cs t frozen
    | o => o
  let h := put w0.heap 0 (valsD (H := Unit) Rows.laid_narthex_decl_words).toArray
  let h := put h 1 (valsD (H := Unit) Rows.laid_unicode_asciiFold).toArray
  let h := put h 2 #[.slice (some ⟨N, 0, none⟩) 94 94]
  let h := put h 3 #[.slice (some ⟨N + 1, 0, none⟩) 336 336]
  let h := put h 4 (valsD (H := Unit) Rows.laid_narthex_cref_known).toArray
  let h := put h 5 (valsD (H := Unit) Rows.laid_unicode_utf8_first).toArray
  let h := put h 6 (valsD (H := Unit) Rows.laid_unicode_utf8_acceptRanges).toArray
  let h := put h 7 (valsD (H := Unit) Rows.laid_narthex_chars_starts).toArray
  let h := put h 8 (valsD (H := Unit) Rows.laid_narthex_chars_more).toArray
  let h := put h 10 (valsD (H := Unit) Rows.laid_narthex_utf_forms).toArray
  let h := put h 11 (valsD (H := Unit) Rows.laid_narthex_atype_kinds).toArray
  let h := put h 12 (valsD (H := Unit) Rows.laid_narthex_atype_modes).toArray
  let h := put h 13 (valsD (H := Unit) Rows.laid_narthex_chars_documents).toArray
  { w0 with heap := h }

noncomputable abbrev N0 : Nat := (World.settled Tryz.prog default).heap.size
noncomputable abbrev Wm (os : Os) : World := ((laidWorld os).forCall (fun _ _ => 0) ⟨#[], #[.int .u8 0], []⟩).memory
theorem caseTy : CaseTy Tryz.prog 224 281 277 279 21 where
  us := Tryz.underlying224
  ur := ⟨_, _, _, Tryz.underlying281, rfl, rfl, rfl, rfl, rfl, rfl⟩
  uu := Tryz.underlying277
  ua := Tryz.underlying279
  ui := Tryz.underlying21
  cu := by kernel_rfl
  ca := by kernel_rfl
  ci := by kernel_rfl
  cr := by kernel_rfl
theorem piece1 (os : Os) : LaidIn Tryz.prog (Wm os) [("unicode/utf8.acceptRanges", Rows.laid_unicode_utf8_acceptRanges), ("narthex/utf.forms", Rows.laid_narthex_utf_forms), ("unicode.asciiFold", Rows.laid_unicode_asciiFold), ("unicode.caseOrbit", Rows.laid_unicode_caseOrbit), ("narthex/chars.documents", Rows.laid_narthex_chars_documents), ("narthex/chars.starts", Rows.laid_narthex_chars_starts), ("narthex/chars.more", Rows.laid_narthex_chars_more), ("narthex/cref.known", Rows.laid_narthex_cref_known), ("narthex/atype.kinds", Rows.laid_narthex_atype_kinds), ("narthex/atype.modes", Rows.laid_narthex_atype_modes), ("narthex/decl.words", Rows.laid_narthex_decl_words)] [6, 10, 1, 2, N0, 13, 7, 8, 4, 11, 12, 0] :=
  LaidIn.of_run _ 10 (by kernel_rfl) (by kernel_rfl) (by kernel_rfl) (by kernel_rfl)
theorem piece2 (os : Os) : LaidIn Tryz.prog (Wm os) [("unicode.CaseRanges", Rows.laid_unicode_CaseRanges)] [3, N0 + 1] :=
  laidIn_case (t := 281) caseTy (of_decide_eq_true (by kernel_rfl)) (by kernel_rfl) (by kernel_rfl) (by kernel_rfl) (by kernel_rfl)
theorem piece3 (os : Os) : LaidIn Tryz.prog (Wm os) [("unicode/utf8.first", Rows.laid_unicode_utf8_first)] [5] :=
  LaidIn.of_run _ 10 (by kernel_rfl) (by kernel_rfl) (by kernel_rfl) (by kernel_rfl)
theorem laid_met (os : Os) : laidMet Tryz.prog Rows.prologInnerRow.laid (Wm os) :=
  (((piece1 os).append (piece2 os) (by kernel_rfl)).append (piece3 os) (by kernel_rfl)).met
end Go.Proofs.YtakkhdakmmpggaaGreatDoorRR

/- The law, for every number; the row; the cards. -/
namespace Go.Proofs.YtakkhdakmmpggaaGreatDoorRR
open Go Go.Tv Go.Proofs Go.ChangeShapes Go.WideShapes Go.ChangeAt Go.RowKit
set_option maxRecDepth 100000

theorem chkNs_mem {m : Int} : ∀ {l : List Int}, chkNs m l = true → ∀ n ∈ l, isTrue (runF (E m) 100000 (start [.int .u8 n] 3)) = true
  | [], _, n, h => nomatch h
  | k :: l, hc, n, h => by
    unfold chkNs at hc
    split at hc
    · rename_i hk
      rcases List.mem_cons.1 h with rfl | h
      · exact hk
      · exact chkNs_mem hc n h
    · cases hc

/-- the law at one number -/
theorem at_n {m : Int} {W : World} {n : Int} (hm : W.cell? ⟨9, 0, none⟩ = some (.int .i64 m)) (hL : laidMetH Tryz.prog Rows.prologInnerRow.laid W)
    (hn : isTrue (runF (E m) 100000 (start [.int .u8 n] 3)) = true) : Calls Tryz.prog 3 #[.int .u8 n] W fun e W' => e = .returned (.bool true) ∧ Below W.heap.size W W' := by
  rw [runF_eq] at hn
  cases hr : run (E m) 100000 (start [.int .u8 n] 3) with
  | none => rw [hr] at hn; cases hn
  | some a =>
    rw [hr] at hn
    have hok := run_ok (envOk m) 100000
    refine (hok.call (Ctx.start W) ⟨[], false, []⟩ 3 [.int .u8 n] #[.int .u8 n] a (start_ok W) (globs hm hL) rfl rfl (.cons (.int _ _) .nil) hr).2.mono fun e W' => ?_
    rintro ⟨D, h1, h2, rfl, h4, h5, h6⟩
    refine ⟨?_, h1.below⟩
    obtain ⟨ae, avs, aσ⟩ := a
    unfold isTrue at hn
    split at hn
    · rename_i q heq
      cases heq
      obtain ⟨val, rfl, hv⟩ := h6
      cases hv
      rfl
    · cases hn

theorem contract (all : ∀ (m : Int) (k : Nat), k < 256 → isTrue (runF (E m) 100000 (start [.int .u8 (k : Int)] 3)) = true) (H : Type) (enc : TypeId × Value → H) (W : World) (base : Nat) (args : Array Value) (ds gs : List (DataW H)) (before : List MemPlace)
    (hval : ∀ (j : Nat) t v, Tryz.f3.params[j]? = some t → args[j]? = some v → Value.okWide Tryz.prog W .any base t v)
    (hW : DataW.Whole enc Tryz.prog Tryz.f3.params.toList Rows.prologInnerSpec.vars false W args.toList ds gs before) (hL : laidMetH Tryz.prog Rows.prologInnerRow.laid W) (hsh : W.ShapedOpen Tryz.prog) :
    Calls Tryz.prog 3 args W fun e W' => ∃ v, e = .returned v ∧ Rows.prologInnerSpec.post enc Tryz.prog Tryz.f3 false true false false W args v W' := by
  have hW' := hW
  obtain ⟨p, q, hA0, hV, rfl, hfz, hnd⟩ := hW
  have hA : DataW.TrodAll enc Tryz.prog W 0 (fun _ => true) true Tryz.f3.params.toList args.toList ds p := hA0
  rw [Tryz.params3] at hA hval
  obtain ⟨v0, d0, rfl, rfl, h0⟩ := trodAll_one hA
  obtain ⟨rfl, rfl⟩ := trodVars_none hV
  obtain ⟨n, rfl, rfl, rfl, hw⟩ := open_int Tryz.underlying5 (hval 0 5 v0 rfl rfl) h0
  clear hA0
  simp only [List.append_nil] at hW'
  obtain ⟨m, hm⟩ := cell_of_shapedOpen_int (g := 9) (t := 3) (k := .i64) hsh (of_decide_eq_true (by kernel_rfl)) (zero := #[.int .i64 0]) (by kernel_rfl) rfl (by kernel_rfl) (by kernel_rfl) Tryz.underlying3
  have hb : 0 ≤ n ∧ n < 256 := by
    simp only [Lit.wf, Bool.and_eq_true, decide_eq_true_eq] at hw
    have h1 : (0 : Int) ≤ n := hw.1
    have h2 : n ≤ 255 := hw.2
    exact ⟨h1, by omega⟩
  have hn : isTrue (runF (E m) 100000 (start [.int .u8 n] 3)) = true := by
    have := all m n.toNat (by omega)
    rwa [Int.toNat_of_nonneg hb.1] at this
  refine (at_n hm hL hn).mono fun e W' ⟨he, hg⟩ => ?_
  subst he
  exact ⟨_, rfl, post_below (pa := []) (pv := []) hW' (fun _ _ _ => trodAll_mk1 (shut_bool Tryz.underlying4 _)) (fun _ _ => trodAll_mk1 (shut_int Tryz.underlying5 hw)) (fun _ _ => rfl) rfl hg⟩
end Go.Proofs.YtakkhdakmmpggaaGreatDoorRR

/- The rows. -/
namespace Go.Proofs.YtakkhdakmmpggaaGreatDoorRR
open Go Go.Tv Go.Proofs Go.ChangeShapes Go.WideShapes Go.ChangeAt Go.RowKit
set_option maxRecDepth 100000

theorem reads (os : Os) {H : Type} (enc : TypeId × Value → H) : ∃ places, DataW.whole enc Tryz.prog (Wm os) Tryz.f3.params.toList Rows.prologInnerSpec.vars false #[Value.int .u8 0].toList 8 = some ([.lit (.int .u8 0)], [], places) :=
  ⟨[], by kernel_rfl⟩

theorem lifted (all : ∀ (m : Int) (k : Nat), k < 256 → isTrue (runF (E m) 100000 (start [.int .u8 (k : Int)] 3)) = true) (os : Os) (started : os.Started) (H : Type) (enc : TypeId × Value → H) (F : Stop.Interp) :
    ReturnsInHanded {} Tryz.checked os 3 .any ((OpenSpec.ofChange Rows.prologInnerSpec).preRow enc Tryz.prog Tryz.f3 Rows.prologInnerRow.domain false Rows.prologInnerRow.laid) (((OpenSpec.ofChange Rows.prologInnerSpec).at F).post enc Tryz.prog Tryz.f3 false true false false) := by
  obtain ⟨places, hx⟩ := reads os enc
  refine returnsInHanded_of_row (C := Tryz.checked) (s := OpenSpec.ofChange Rows.prologInnerSpec) own started (by kernel_rfl) Tryz.func3
    (witness_row_atRef (enc := enc) (C := Tryz.checked) false (laidWorld os) #[.int .u8 0] rfl (by kernel_rfl) (by kernel_rfl) (by kernel_rfl)
      (OpenSpec.preRow_of_cond 8 hx (by kernel_rfl) (fun k hk => by cases hk) (by kernel_rfl) (laid_met os))) ?_
  intro W base args ds gs before hval hW _ _ _ hL hsh _
  exact contract all H enc W base args ds gs before hval hW hL hsh

theorem liftedUpto (all : ∀ (m : Int) (k : Nat), k < 256 → isTrue (runF (E m) 100000 (start [.int .u8 (k : Int)] 3)) = true) (os : Os) (started : os.Started) (H : Type) (enc : TypeId × Value → H) (F : Stop.Interp) :
    ReturnsInHanded {} Tryz.checked os 3 .any ((Rows.OpenSpec.upto Rows.prologInnerSpec).preRow enc Tryz.prog Tryz.f3 Rows.prologInnerUptoRow.domain false Rows.prologInnerUptoRow.laid) (((Rows.OpenSpec.upto Rows.prologInnerSpec).at F).post enc Tryz.prog Tryz.f3 false true false false) := by
  obtain ⟨places, hx⟩ := reads os enc
  refine returnsInHanded_of_row (C := Tryz.checked) (s := Rows.OpenSpec.upto Rows.prologInnerSpec) own started (by kernel_rfl) Tryz.func3
    (witness_row_atRef (enc := enc) (C := Tryz.checked) false (laidWorld os) #[.int .u8 0] rfl (by kernel_rfl) (by kernel_rfl) (by kernel_rfl)
      (OpenSpec.preRow_of_cond 8 hx (by kernel_rfl) (fun k hk => by cases hk; kernel_rfl) (by kernel_rfl) (laid_met os))) ?_
  intro W base args ds gs before hval hW _ _ _ hL hsh _
  exact contract all H enc W base args ds gs before hval hW hL hsh

/-- No parameter wants a stand-in; the program's own looks are off: what both cards ask. -/
theorem plain (f : FuncId) (fn : Func) (hf : Tryz.pinned.checked.prog.funcNamed "narthex/narthexlaw29.PrologInner" = some f) (hfn : Tryz.pinned.checked.prog.funcs[f]? = some fn) :
    false = Tryz.pinned.checked.prog.looks [] ∧ ∀ (j : Nat) t, fn.params[j]? = some t → Tryz.pinned.checked.prog.wantsStandIn t = false := by
  obtain rfl : f = 3 := Option.some.inj ((show Tryz.prog.funcNamed "narthex/narthexlaw29.PrologInner" = some 3 by kernel_rfl).symm.trans hf) |>.symm
  obtain rfl : fn = Tryz.f3 := (Option.some.inj (Tryz.func3.symm.trans hfn)).symm
  refine ⟨by kernel_rfl, fun j t ht => ?_⟩
  rw [Tryz.params3] at ht
  obtain rfl : t = 5 := by simpa using Array.mem_of_getElem? ht
  exact (show Tryz.prog.wantsStandIn 5 = false by kernel_rfl)

end Go.Proofs.YtakkhdakmmpggaaGreatDoorRR

/- The cards. -/
namespace Go.Proofs.YtakkhdakmmpggaaGreatDoorRR
open Go Go.Tv Go.Proofs Go.ChangeShapes Go.WideShapes Go.ChangeAt Go.RowKit
set_option maxRecDepth 100000
theorem said (all : ∀ (m : Int) (k : Nat), k < 256 → isTrue (runF (E m) 100000 (start [.int .u8 (k : Int)] 3)) = true) : Rows.PrologInnerSaid :=
  OpenClaim.holds_of_cond 3 Tryz.f3 rfl rfl rfl rfl rfl rfl rfl ⟨rfl, rfl, rfl, rfl, rfl⟩ rfl rfl rfl rfl rfl (by kernel_rfl) Tryz.func3 facts
    (of_decide_eq_true (by kernel_rfl)) (by unfold Func.isWrapper; first | (rw [if_pos (by decide +kernel)]; kernel_rfl) | (rw [if_neg (by decide +kernel)]; exact ⟨rfl, rfl⟩))
    (fun os started H enc _ F => by rw [OpenClaim.pre_eq_preRow]; exact lifted all os started H enc F)
theorem saidUpto (all : ∀ (m : Int) (k : Nat), k < 256 → isTrue (runF (E m) 100000 (start [.int .u8 (k : Int)] 3)) = true) : Rows.PrologInnerUptoSaid :=
  OpenClaim.holds_of_cond 3 Tryz.f3 rfl rfl rfl rfl rfl rfl rfl ⟨rfl, rfl, rfl, rfl, rfl⟩ rfl rfl rfl rfl rfl (by kernel_rfl) Tryz.func3 factsUpto
    (of_decide_eq_true (by kernel_rfl)) (by unfold Func.isWrapper; first | (rw [if_pos (by decide +kernel)]; kernel_rfl) | (rw [if_neg (by decide +kernel)]; exact ⟨rfl, rfl⟩))
    (fun os started H enc _ F => by rw [OpenClaim.pre_eq_preRow]; exact liftedUpto all os started H enc F)
theorem cardOf (all : ∀ (m : Int) (k : Nat), k < 256 → isTrue (runF (E m) 100000 (start [.int .u8 (k : Int)] 3)) = true) : Rows.PrologInnerCardSaid :=
  Claim7.holds_tied_plain_at .later [] _ _ _ _ (said all) (fun _ h => by cases h) (by kernel_rfl) (fun _ h => by cases h) prologInner_row_tie rfl ⟨rfl, rfl⟩ (by kernel_rfl) rfl plain (by kernel_rfl)
theorem cardUptoOf (all : ∀ (m : Int) (k : Nat), k < 256 → isTrue (runF (E m) 100000 (start [.int .u8 (k : Int)] 3)) = true) : Rows.PrologInnerUptoCardSaid :=
  Claim7.holds_tied_plain_at .later [] _ _ _ _ (saidUpto all) (fun _ h => by cases h) (by kernel_rfl) (fun _ h => by cases h) prologInnerUpto_row_tie rfl ⟨rfl, rfl⟩ (by kernel_rfl) rfl plain (by kernel_rfl)
end Go.Proofs.YtakkhdakmmpggaaGreatDoorRR

/- The runs joined; the cards. -/
namespace Go.Proofs.YtakkhdakmmpggaaGreatDoorRR
open Go Go.Tv Go.Proofs
theorem all (m : Int) (k : Nat) (h : k < 256) : isTrue (runF (E m) 100000 (start [.int .u8 (k : Int)] 3)) = true := by
  have h1 : k % 64 / 2 < 32 := by omega
  generalize h2 : k % 64 / 2 = t at h1
  match t, h1, h2 with
  | 0, _, h2 => exact chkNs_mem (runs0 m) _ (by simp only [List.mem_cons, List.mem_nil_iff, or_false]; omega)
  | 1, _, h2 => exact chkNs_mem (runs1 m) _ (by simp only [List.mem_cons, List.mem_nil_iff, or_false]; omega)
  | 2, _, h2 => exact chkNs_mem (runs2 m) _ (by simp only [List.mem_cons, List.mem_nil_iff, or_false]; omega)
  | 3, _, h2 => exact chkNs_mem (runs3 m) _ (by simp only [List.mem_cons, List.mem_nil_iff, or_false]; omega)
  | 4, _, h2 => exact chkNs_mem (runs4 m) _ (by simp only [List.mem_cons, List.mem_nil_iff, or_false]; omega)
  | 5, _, h2 => exact chkNs_mem (runs5 m) _ (by simp only [List.mem_cons, List.mem_nil_iff, or_false]; omega)
  | 6, _, h2 => exact chkNs_mem (runs6 m) _ (by simp only [List.mem_cons, List.mem_nil_iff, or_false]; omega)
  | 7, _, h2 => exact chkNs_mem (runs7 m) _ (by simp only [List.mem_cons, List.mem_nil_iff, or_false]; omega)
  | 8, _, h2 => exact chkNs_mem (runs8 m) _ (by simp only [List.mem_cons, List.mem_nil_iff, or_false]; omega)
  | 9, _, h2 => exact chkNs_mem (runs9 m) _ (by simp only [List.mem_cons, List.mem_nil_iff, or_false]; omega)
  | 10, _, h2 => exact chkNs_mem (runs10 m) _ (by simp only [List.mem_cons, List.mem_nil_iff, or_false]; omega)
  | 11, _, h2 => exact chkNs_mem (runs11 m) _ (by simp only [List.mem_cons, List.mem_nil_iff, or_false]; omega)
  | 12, _, h2 => exact chkNs_mem (runs12 m) _ (by simp only [List.mem_cons, List.mem_nil_iff, or_false]; omega)
  | 13, _, h2 => exact chkNs_mem (runs13 m) _ (by simp only [List.mem_cons, List.mem_nil_iff, or_false]; omega)
  | 14, _, h2 => exact chkNs_mem (runs14 m) _ (by simp only [List.mem_cons, List.mem_nil_iff, or_false]; omega)
  | 15, _, h2 => exact chkNs_mem (runs15 m) _ (by simp only [List.mem_cons, List.mem_nil_iff, or_false]; omega)
  | 16, _, h2 => exact chkNs_mem (runs16 m) _ (by simp only [List.mem_cons, List.mem_nil_iff, or_false]; omega)
  | 17, _, h2 => exact chkNs_mem (runs17 m) _ (by simp only [List.mem_cons, List.mem_nil_iff, or_false]; omega)
  | 18, _, h2 => exact chkNs_mem (runs18 m) _ (by simp only [List.mem_cons, List.mem_nil_iff, or_false]; omega)
  | 19, _, h2 => exact chkNs_mem (runs19 m) _ (by simp only [List.mem_cons, List.mem_nil_iff, or_false]; omega)
  | 20, _, h2 => exact chkNs_mem (runs20 m) _ (by simp only [List.mem_cons, List.mem_nil_iff, or_false]; omega)
  | 21, _, h2 => exact chkNs_mem (runs21 m) _ (by simp only [List.mem_cons, List.mem_nil_iff, or_false]; omega)
  | 22, _, h2 => exact chkNs_mem (runs22 m) _ (by simp only [List.mem_cons, List.mem_nil_iff, or_false]; omega)
  | 23, _, h2 => exact chkNs_mem (runs23 m) _ (by simp only [List.mem_cons, List.mem_nil_iff, or_false]; omega)
  | 24, _, h2 => exact chkNs_mem (runs24 m) _ (by simp only [List.mem_cons, List.mem_nil_iff, or_false]; omega)
  | 25, _, h2 => exact chkNs_mem (runs25 m) _ (by simp only [List.mem_cons, List.mem_nil_iff, or_false]; omega)
  | 26, _, h2 => exact chkNs_mem (runs26 m) _ (by simp only [List.mem_cons, List.mem_nil_iff, or_false]; omega)
  | 27, _, h2 => exact chkNs_mem (runs27 m) _ (by simp only [List.mem_cons, List.mem_nil_iff, or_false]; omega)
  | 28, _, h2 => exact chkNs_mem (runs28 m) _ (by simp only [List.mem_cons, List.mem_nil_iff, or_false]; omega)
  | 29, _, h2 => exact chkNs_mem (runs29 m) _ (by simp only [List.mem_cons, List.mem_nil_iff, or_false]; omega)
  | 30, _, h2 => exact chkNs_mem (runs30 m) _ (by simp only [List.mem_cons, List.mem_nil_iff, or_false]; omega)
  | 31, _, h2 => exact chkNs_mem (runs31 m) _ (by simp only [List.mem_cons, List.mem_nil_iff, or_false]; omega)
  | _ + 32, h1, _ => exact absurd h1 (by omega)
/-- THE CARD. -/
theorem card : Rows.PrologInnerCardSaid := cardOf all
/-- THE SECOND FORM's CARD. -/
theorem cardUpto : Rows.PrologInnerUptoCardSaid := cardUptoOf all
end Go.Proofs.YtakkhdakmmpggaaGreatDoorRR
