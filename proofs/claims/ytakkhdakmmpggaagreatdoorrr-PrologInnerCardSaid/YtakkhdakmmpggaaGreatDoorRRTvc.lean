/- Whole calls, a seat's tables, some library functions; part three: a tool of this claim's proof, no statement of the program. -/
import Derived.Test.YtakkhdakmmpggaaGreatDoorRRTvb
import Derived.RangeFuncRecord
import Derived.OpenShut
import Derived.ChangeArms
import Derived.LaidLaws
import Derived.Lib.IndexMore
import Derived.Lib.Bytes
import Derived.Lib.Bytealg
import Derived.Deep.Quiet
import Derived.Laws.AppendOwn
import Derived.JoinedCond

/- Code, calls, runs. -/
namespace Go.Tv
open Go Go.RowKit

section
variable {P : Program} {E : Env} {C D : Ctx}

/-- An entry, no token, and its block, no row of cells, turn. -/
def Ctx.putE (C : Ctx) (r : Nat) (e : Ent) (o : Obj) : Ctx := { C with w := C.w.putObj (C.loc r) o, ents := C.ents.set r e }

theorem putE_turned {r : Nat} {e e' : Ent} {o : Obj} (he : C.ents[r]? = some e) (ha : e.alive) (ht : ∀ v p s, e ≠ .tok v p s) (ht' : ∀ v p s, e' ≠ .tok v p s) (hz : C.fz (C.loc r) = 0)
    (hcells : ∀ arr ty fr, C.w.heap[C.loc r]? ≠ some (.cells arr ty fr)) : Turned C (C.putE r e' o) r e e' where
  heap b hb := World.putObj_heap_other hb
  size := World.putObj_size
  os := rfl
  tape := rfl
  output := rfl
  base := rfl
  loc := rfl
  fz := rfl
  fe := rfl
  ents := rfl
  was := he
  alive := ha
  tok := ht
  tok' := ht'
  fz0 := hz
  room n := by
    rintro ⟨arr, ty, fr, h1, _⟩
    exact absurd h1 (hcells arr ty fr)

theorem putE_ok (hok : Ok P E C) {r : Nat} {e e' : Ent} {o : Obj} (he : C.ents[r]? = some e) (ha : e.alive) (ht : ∀ v p s, e ≠ .tok v p s) (ht' : ∀ v p s, e' ≠ .tok v p s) (hz : C.fz (C.loc r) = 0)
    (hcells : ∀ arr ty fr, C.w.heap[C.loc r]? ≠ some (.cells arr ty fr)) (hnew : Ext C (C.putE r e' o) → EntOk P E (C.putE r e' o) r e') : Adv C (C.putE r e' o) ∧ Ok P E (C.putE r e' o) := by
  have h := putE_turned (o := o) he ha ht ht' hz hcells
  exact ⟨h.adv hok, h.ok hok (hnew (h.ext hok))⟩

theorem putE_heap {r : Nat} {e' : Ent} {o : Obj} (h : C.loc r < C.w.heap.size) : (C.putE r e' o).w.heap[C.loc r]? = some o := World.putObj_heap_same h

theorem evalCode_sound {R : Type} (hE : EnvOk P E) {rec : Rec} (hrec : RecOk P E rec) {F : Fence} {n : Nat} (hF : FW F) {rd : Bool} (hro : F.round.isSome = rd) {f : FuncId} {fn : Func} {c0 : Code} (hcode : E.code f = some fn) (hbody : fn.body = some c0) :
    ∀ (c : Code), codeFit E f fn.ntmps c = true → ((∀ p ∈ loopsOf c, p ∈ loopsOf c0) ∧ ∀ p ∈ rangesOf c, p ∈ rangesOf c0) → ∀ {C : Ctx} {a : Act} {fr : Tr TV} {σ : St} {K : TE → Tr TV → St → Option R} {r : R} {Q : Exit → Act → World → Prop}, StOk P E C a fr σ fn.ntmps →
      evalCode E rec rd f c fr σ K = some r →
      (∀ D a' te fr' σ' e, StOk P E D a' fr' σ' fn.ntmps → Adv C D → Tame0 σ σ' → ExitOk D te e → K te fr' σ' = some r → Q e a' D.w) → c.wpIn F n P Q a C.w := by
  obtain ⟨hsz, hfit0, hdis, hdisr⟩ := hE.fit f fn c0 hcode hbody
  intro c
  induction c with
  | skip => intro _ _ C a fr σ K r Q hst h hK; exact wpIn_skip (hK C a .normal fr σ .normal hst (Adv.refl C) (Tame0.refl σ) rfl h)
  | label l => intro _ _ C a fr σ K r Q hst h hK; exact wpIn_label (hK C a .normal fr σ .normal hst (Adv.refl C) (Tame0.refl σ) rfl h)
  | exit id => intro _ _ C a fr σ K r Q hst h hK; exact wpIn_exit (hK C a (.exit id) fr σ (.exit id) hst (Adv.refl C) (Tame0.refl σ) rfl h)
  | ret => intro _ _ C a fr σ K r Q hst h hK; exact wpIn_ret (hK C a .ret fr σ .ret hst (Adv.refl C) (Tame0.refl σ) rfl h)
  | goto l => intro _ _ C a fr σ K r Q hst h hK; cases h
  | refuse w => intro _ _ C a fr σ K r Q hst h hK; cases h
  | scope b ih =>
    intro hf hl C a fr σ K r Q hst h hK
    unfold evalCode at h
    refine wpIn_scope (ih hf hl hst h fun D a' te fr' σ' e h1 h2 h3 h4 h5 => ⟨fun l hl => ?_, hK D a' te fr' σ' e h1 h2 h3 h4 h5⟩)
    subst hl
    cases te with
    | pan v => obtain ⟨val, h6, _⟩ := h4; cases h6
    | _ => cases h4
  | rangeFunc fo ps x y ihx ihy =>
    intro hf hl C a fr σ K r Q hst h hK
    unfold evalCode at h
    split at h
    · rename_i id hid
      split at h
      · rename_i ins outs hlive
        unfold rangeK at h
        cases rd with
        | true => cases h
        | false =>
          simp only at h
          split at h
          · rename_i g xs ys hfo
            have hnone : F.round = none := by
              cases hr : F.round with
              | none => rfl
              | some l => rw [hr] at hro; cases hro
            refine wpIn_rangeFunc fun fn' hfn' => ?_
            have hmem : (id, ps, x, y) ∈ rangesOf c0 := hl.2 _ (by unfold rangesOf; rw [hid]; simp)
            have hfind : findRange id c0 = some (ps, x, y) := by rw [findRange_eq]; exact distinct_find hdisr hmem
            have hpf := hE.code f fn hcode
            -- the block and the record
            have hg1 := grew_add C (.deferred (some [])) .dfr 0 0
            have ho1 : Ok P E (C.add (.deferred (some [])) .dfr 0 0) := ok_add hst.ok _ _ _ _ ⟨by rw [add_loc, add_fz], by rw [add_loc, add_heap]⟩
            have hs1 : (C.add (.deferred (some [])) .dfr 0 0).w.heap.size = C.w.heap.size + 1 := by simp [Ctx.add]
            have hl1 : (C.add (.deferred (some [])) .dfr 0 0).ents.length = C.ents.length + 1 := by simp [Ctx.add]
            have hp1 : (C.add (.deferred (some [])) .dfr 0 0).plain C.ents.length := add_plain (fun _ _ _ h => nomatch h)
            have hloc1 : (C.add (.deferred (some [])) .dfr 0 0).loc C.ents.length = C.w.heap.size := add_loc _ _ _ _
            have hents1 : (C.add (.deferred (some [])) .dfr 0 0).ents = C.ents ++ [.dfr] := rfl
            have hw1 : (C.add (.deferred (some [])) .dfr 0 0).w = C.w.alloc (.deferred (some [])) := rfl
            have ha1 := hg1.adv hst.ok
            generalize C.add (.deferred (some [])) .dfr 0 0 = C1 at *
            have hg2 := grew_add C1 (.loop { state := .ready, pending := none, fn := fn', tmps := a.tmps, params := ps, assign := x, body := y, defers := C.w.heap.size }) (.rl f id (gets fr ins) 0 none) 0 0
            have hx2 := hg2.ext ho1
            have ho2 : Ok P E (C1.add (.loop { state := .ready, pending := none, fn := fn', tmps := a.tmps, params := ps, assign := x, body := y, defers := C.w.heap.size }) (.rl f id (gets fr ins) 0 none) 0 0) := by
              refine ok_add ho1 _ _ _ _ ⟨by rw [add_loc, add_fz], a.tmps, ps, x, y, C.w.heap.size, fn, c0, ins, outs, fn', by rw [add_loc, add_heap]; rfl, hpf, hbody, hst.size, hfind, hlive, ?_⟩
              exact RepS.ext hx2 (RepS.adv ha1.rep (gets_ok hst.fr ins))
            have hp2 : (C1.add (.loop { state := .ready, pending := none, fn := fn', tmps := a.tmps, params := ps, assign := x, body := y, defers := C.w.heap.size }) (.rl f id (gets fr ins) 0 none) 0 0).plain C1.ents.length := add_plain (fun _ _ _ h => nomatch h)
            have hloc2 : (C1.add (.loop { state := .ready, pending := none, fn := fn', tmps := a.tmps, params := ps, assign := x, body := y, defers := C.w.heap.size }) (.rl f id (gets fr ins) 0 none) 0 0).loc C1.ents.length = C1.w.heap.size := add_loc _ _ _ _
            have hents2 : (C1.add (.loop { state := .ready, pending := none, fn := fn', tmps := a.tmps, params := ps, assign := x, body := y, defers := C.w.heap.size }) (.rl f id (gets fr ins) 0 none) 0 0).ents = C1.ents ++ [.rl f id (gets fr ins) 0 none] := rfl
            have hw2 : (C1.add (.loop { state := .ready, pending := none, fn := fn', tmps := a.tmps, params := ps, assign := x, body := y, defers := C.w.heap.size }) (.rl f id (gets fr ins) 0 none) 0 0).w = C1.w.alloc (.loop { state := .ready, pending := none, fn := fn', tmps := a.tmps, params := ps, assign := x, body := y, defers := C.w.heap.size }) := rfl
            have ha2 := hg2.adv ho1
            generalize C1.add (.loop { state := .ready, pending := none, fn := fn', tmps := a.tmps, params := ps, assign := x, body := y, defers := C.w.heap.size }) (.rl f id (gets fr ins) 0 none) 0 0 = C2 at *
            have ha12 := ha1.trans ha2
            have hlen : C.ents.length = σ.ents.length := by rw [hst.ents]
            rw [hl1, hlen] at hp2 hloc2
            rw [hlen] at hp1 hloc1
            rw [hs1] at hloc2
            have hcents : C2.ents = σ.ents ++ [.dfr, .rl f id (gets fr ins) 0 none] := by rw [hents2, hents1, hst.ents]; simp
            -- the call
            have hfv := ha12.rep _ _ (rep_opd (a := a) hst.glob hst.fr fo)
            rw [hfo] at hfv
            generalize hval : a.eval fo = fval at hfv
            generalize hfn2 : Fn.func g = fnn at hfv
            cases hfv with
            | func k1 k2 k3 k4 k5 =>
              subst hfn2
              rename_i vx vy
              have hyv : RepL C2 [Value.func (.yield (C.w.heap.size + 1)) #[] #[]] [TV.func (.yield (σ.ents.length + 1)) [] []] := by
                refine RepL.cons ?_ RepL.nil
                have := Rep.func (C := C2) (fn := .yield (σ.ents.length + 1)) (x := #[]) (y := #[]) (a := []) (b := []) hp2 rfl rfl (fun i v t h _ => by simp at h) (fun i v t h _ => by simp at h)
                simp only [fnTo, hloc2] at this
                exact this
              have hargs : RepL C2 (vx ++ #[Value.func (.yield (C.w.heap.size + 1)) #[] #[]] ++ vy).toList (xs ++ [.func (.yield (σ.ents.length + 1)) [] []] ++ ys) := by
                have e : (vx ++ #[Value.func (.yield (C.w.heap.size + 1)) #[] #[]] ++ vy).toList = vx.toList ++ [Value.func (.yield (C.w.heap.size + 1)) #[] #[]] ++ vy.toList := by simp
                rw [e]
                exact RepL.append (RepL.append ⟨k2, k4⟩ hyv) ⟨k3, k5⟩
              obtain ⟨C3, args3, σ3, ha3, ho3, hw3, hents3, ht3, hargs3, h3⟩ := freezeLK_sound _ ho2 hcents hargs h
              obtain ⟨ans, hans, h4⟩ := bindR_some h3
              obtain ⟨henter, hcalls⟩ := hrec.call C3 ⟨σ3.ents, false, []⟩ g args3 _ ans ho3 ((hst.glob.adv ha12).adv ha3) hents3 rfl hargs3 hans
              refine ⟨C.w.heap.size + 1, [{ target := .collected C.w.heap.size, args := #[] }], C2.w, { target := .fn (.func g) vy, args := vx ++ #[.func (.yield (C.w.heap.size + 1)) #[] #[]] }, C2.w, g, _, C3.w, ?_, ?_, fun f' _ => hF.fn f', ?_, (fun hd => by rw [hF.depth] at hd; cases hd), hF.calls (hcalls.mono fun e w' => ?_)⟩
              · rw [hnone, run_enterLoop_outer, hw2, hw1]
              · simp only [resolve, hval, fnTo, Deferred.ofValue, Sem.run_pure]
                simp [Act.eval]
              · rw [← hw3]; exact henter
              · rintro ⟨D, m1, m2, m3, m4, m5, m6⟩
                have hpD := m1.plain _ (ha3.plain _ hp2).1
                have hlocD : D.loc (σ.ents.length + 1) = C.w.heap.size + 1 := by rw [hpD.2, (ha3.plain _ hp2).2, hloc2]
                have fin : ∀ (st : Nat) (f2 id2 : Nat) (vals2 : List TV) (pend : Option Nat), ans.σ.ents[σ.ents.length + 1]? = some (.rl f2 id2 vals2 st pend) → st ≠ 1 →
                    ∃ D', (Instr.endLoop (C.w.heap.size + 1)).run P D.w = .ok (lpend st pend) D'.w ∧ StOk P E D' { a with defers := [{ target := .collected C.w.heap.size, args := #[] }] ++ a.defers } fr ⟨ans.σ.ents.set (σ.ents.length + 1) .dead, σ3.esc || ans.σ.esc, σ3.defs⟩ fn.ntmps ∧ Adv C D' ∧ Tame0 σ ⟨ans.σ.ents.set (σ.ents.length + 1) .dead, σ3.esc || ans.σ.esc, σ3.defs⟩ := by
                  intro st f2 id2 vals2 pend hent hst1
                  have hent' : D.ents[σ.ents.length + 1]? = some (.rl f2 id2 vals2 st pend) := by rw [m4]; exact hent
                  obtain ⟨q0, tm, ps2, x2, y2, d2, fn2, c2, ins2, outs2, f02, q1, _⟩ := m2.obj _ _ hent'
                  have hltD := (m2.lt _ _ hent' trivial).2
                  obtain ⟨n1, n2⟩ := putE_ok (e' := .dead) (o := .loop { state := .exhausted, pending := lpend st pend, fn := f02, tmps := tm, params := ps2, assign := x2, body := y2, defers := d2 }) m2 hent' trivial (fun _ _ _ h => nomatch h) (fun _ _ _ h => nomatch h) q0 (fun arr ty fr h => by rw [q1] at h; cases h) (fun _ => trivial)
                  have hadv := ((ha12.trans ha3).trans m1).trans n1
                  refine ⟨_, ?_, ⟨n2, ?_, hst.glob.adv hadv, fun t => hadv.rep _ _ (hst.fr t), hst.size, ?_⟩, hadv, ?_⟩
                  · have := run_endLoop (P := P) q1 (by show lstate st ≠ .busy; intro hb; apply hst1; unfold lstate at hb; split at hb <;> first | rfl | cases hb)
                    rw [hlocD] at this
                    rw [this]
                    show Result.ok _ _ = Result.ok _ (D.putE _ _ _).w
                    simp only [Ctx.putE, hlocD]
                  · show D.ents.set _ _ = _
                    rw [m4]
                  · show DefsOk _ σ3.defs _
                    rw [ht3.defs]
                    refine ⟨⟨?_, ?_⟩, hst.defs.adv hadv⟩
                    · exact (n1.plain _ (m1.plain _ (ha3.plain _ (ha2.plain _ hp1).1).1).1).1
                    · rw [(n1.plain _ (m1.plain _ (ha3.plain _ (ha2.plain _ hp1).1).1).1).2, (m1.plain _ (ha3.plain _ (ha2.plain _ hp1).1).1).2, (ha3.plain _ (ha2.plain _ hp1).1).2, (ha2.plain _ hp1).2, hloc1]
                  · have t1 : Tame0 σ { σ with ents := σ.ents ++ [.dfr, .rl f id (gets fr ins) 0 none], defs := .mark σ.ents.length :: σ.defs } :=
                      ((Tame.add σ .dfr).trans (Tame.add _ (.rl f id (gets fr ins) 0 none))).t0.of rfl rfl (by simp [St.add]) rfl
                    have t3 : Tame0 σ3 ⟨ans.σ.ents, σ3.esc || ans.σ.esc, σ3.defs⟩ := by
                      refine ⟨m5.len, fun hesc => ?_⟩
                      have hesc' : (σ3.esc || ans.σ.esc) = false := hesc
                      rw [Bool.or_eq_false_iff] at hesc'
                      exact ⟨hesc'.1, (m5.esc hesc'.2).2⟩
                    have t4 : Tame0 (⟨ans.σ.ents, σ3.esc || ans.σ.esc, σ3.defs⟩ : St) ⟨ans.σ.ents.set (σ.ents.length + 1) .dead, σ3.esc || ans.σ.esc, σ3.defs⟩ :=
                      (Tame.put (σ := ⟨ans.σ.ents, σ3.esc || ans.σ.esc, σ3.defs⟩) (e' := .dead) hent (fun n _ _ => Nat.zero_le n)).t0
                    exact t1.trans (ht3.t0.trans (t3.trans t4))
                split at h4
                · rename_i v he hv
                  rw [he, hv] at m6
                  obtain ⟨val, rfl, _⟩ := m6
                  split at h4
                  · rename_i f2 id2 vals2 pend hent
                    obtain ⟨D', hend, hstD, hadvD, htD⟩ := fin 0 f2 id2 vals2 pend hent (by decide)
                    refine ⟨none, D'.w, by rw [← m3]; exact hend, ?_⟩
                    exact hK D' _ .normal fr _ .normal hstD hadvD htD rfl h4
                  · rename_i f2 id2 vals2 i hent
                    obtain ⟨D', hend, hstD, hadvD, htD⟩ := fin 2 f2 id2 vals2 (some i) hent (by decide)
                    refine ⟨some (.exit i), D'.w, by rw [← m3]; exact hend, ?_⟩
                    exact wpIn_exit (hK D' _ (.exit i) fr _ (.exit i) hstD hadvD htD rfl h4)
                  · rename_i f2 id2 vals2 hent
                    obtain ⟨D', hend, hstD, hadvD, htD⟩ := fin 2 f2 id2 vals2 none hent (by decide)
                    refine ⟨some .ret, D'.w, by rw [← m3]; exact hend, ?_⟩
                    exact wpIn_ret (hK D' _ .ret fr _ .ret hstD hadvD htD rfl h4)
                  · cases h4
                · cases h4
          · cases h
      · cases h
    · cases h
  | region id ops draw =>
    intro hf _ C a fr σ K r Q hst h hK
    unfold codeFit at hf
    simp only [Bool.and_eq_true, List.all_eq_true] at hf
    cases draw with
    | false =>
      refine wpIn_region ?_
      have := evalOps_sound (n := n) (P := P) hE hrec hF hro hsz ops.toList [] rfl hf.1 hst h (fun D a' fr' σ' h1 h2 h3 h4 => hK D a' .normal fr' σ' .normal h1 h2 h3 rfl h4)
        (fun D a' fr' σ' v val h1 h2 h3 h4 h5 => hK D a' (.pan v) fr' σ' _ h1 h2 h3 ⟨val, rfl, h4⟩ h5)
      rw [List.range_eq_range']
      rw [Array.length_toList] at this
      exact this
    | true =>
      unfold evalCode at h
      simp only at h
      cases hbad : E.bad f id with
      | true => rw [hbad] at h; cases h
      | false =>
        rw [hbad] at h
        simp only at h
        have hd : drawOk E ops = true := by
          have := hf.2
          rw [hbad] at this
          simpa using this
        refine wpIn_region_any hE.mixed ?_
        have hgd := grew_drewN C (C.w.drawn + 1)
        have hst' : StOk P E (C.drewN (C.w.drawn + 1)) a fr σ fn.ntmps := hst.step (hgd.adv hst.ok) (ok_drewN hst.ok _) hst.ents (Tame.refl σ)
        exact evalDraw_sound (C := C.drewN (C.w.drawn + 1)) hE hrec hF hsz hf.1 hd hst' h (fun D a' fr' σ' h1 h2 h3 h4 => hK D a' .normal fr' σ' .normal h1 ((hgd.adv hst.ok).trans h2) h3 rfl h4)
  | seq x y ihx ihy =>
    intro hf hl C a fr σ K r Q hst h hK
    unfold codeFit at hf
    simp only [Bool.and_eq_true] at hf
    have hl1 : ∀ p, p ∈ loopsOf x ∨ p ∈ loopsOf y → p ∈ loopsOf c0 := fun p hp => hl.1 p (by unfold loopsOf; exact List.mem_append.2 hp)
    have hl2 : ∀ p, p ∈ rangesOf x ∨ p ∈ rangesOf y → p ∈ rangesOf c0 := fun p hp => hl.2 p (by unfold rangesOf; exact List.mem_append.2 hp)
    unfold evalCode at h
    refine wpIn_seq (ihx hf.1 ⟨fun p hp => hl1 p (.inl hp), fun p hp => hl2 p (.inl hp)⟩ hst h fun D a' te fr' σ' e h1 h2 h3 h4 h5 => ?_)
    cases te with
    | normal =>
      have he : e = .normal := h4
      subst he
      exact ihy hf.2 ⟨fun p hp => hl1 p (.inr hp), fun p hp => hl2 p (.inr hp)⟩ h1 h5 fun D' a'' te' fr'' σ'' e' k1 k2 k3 k4 k5 => hK D' a'' te' fr'' σ'' e' k1 (h2.trans k2) (h3.trans k3) k4 k5
    | exit i =>
      have he : e = .exit i := h4
      subst he
      exact hK D a' (.exit i) fr' σ' _ h1 h2 h3 rfl h5
    | ret =>
      have he : e = .ret := h4
      subst he
      exact hK D a' .ret fr' σ' _ h1 h2 h3 rfl h5
    | pan v =>
      obtain ⟨val, rfl, hr⟩ := h4
      exact hK D a' (.pan v) fr' σ' _ h1 h2 h3 ⟨val, rfl, hr⟩ h5
  | cond x y z ihy ihz =>
    intro hf hl C a fr σ K r Q hst h hK
    unfold codeFit at hf
    simp only [Bool.and_eq_true] at hf
    have hl1 : ∀ p, p ∈ loopsOf y ∨ p ∈ loopsOf z → p ∈ loopsOf c0 := fun p hp => hl.1 p (by unfold loopsOf; exact List.mem_append.2 hp)
    have hl2 : ∀ p, p ∈ rangesOf y ∨ p ∈ rangesOf z → p ∈ rangesOf c0 := fun p hp => hl.2 p (by unfold rangesOf; exact List.mem_append.2 hp)
    unfold evalCode at h
    split at h
    · rename_i t ht
      have hx := rep_opd (a := a) hst.glob hst.fr x
      rw [ht] at hx
      have hxv : a.eval x = .bool t := by
        generalize a.eval x = val at hx
        cases hx; rfl
      refine wpIn_cond hxv ?_
      cases t with
      | true => exact ihy hf.1 ⟨fun p hp => hl1 p (.inl hp), fun p hp => hl2 p (.inl hp)⟩ hst h hK
      | false => exact ihz hf.2 ⟨fun p hp => hl1 p (.inr hp), fun p hp => hl2 p (.inr hp)⟩ hst h hK
    · cases h
  | block id b ih =>
    intro hf hl C a fr σ K r Q hst h hK
    unfold evalCode at h
    refine wpIn_block (ih hf hl hst h fun D a' te fr' σ' e h1 h2 h3 h4 h5 => ?_)
    cases te with
    | exit i =>
      have he : e = .exit i := h4
      subst he
      simp only [Exit.inBlock]
      simp only at h5
      cases hi : Nat.beq i id with
      | true =>
        rw [hi] at h5
        rw [if_pos (Nat.eq_of_beq_eq_true hi)]
        exact hK D a' .normal fr' σ' .normal h1 h2 h3 rfl h5
      | false =>
        rw [hi] at h5
        have hne : i ≠ id := by
          rintro rfl
          rw [Nat.beq_refl] at hi; cases hi
        rw [if_neg hne]
        exact hK D a' (.exit i) fr' σ' _ h1 h2 h3 rfl h5
    | normal =>
      have he : e = .normal := h4
      subst he
      exact hK D a' .normal fr' σ' _ h1 h2 h3 rfl h5
    | ret =>
      have he : e = .ret := h4
      subst he
      exact hK D a' .ret fr' σ' _ h1 h2 h3 rfl h5
    | pan v =>
      obtain ⟨val, rfl, hr⟩ := h4
      exact hK D a' (.pan v) fr' σ' _ h1 h2 h3 ⟨val, rfl, hr⟩ h5
  | loop b ih =>
    intro hf hl C a fr σ K r Q hst h hK
    unfold evalCode at h
    split at h
    · rename_i id hid
      split at h
      · rename_i ins outs hlive
        obtain ⟨ans, hans, h1⟩ := bindR_some h
        have hmem : (id, b) ∈ loopsOf c0 := hl.1 _ (by unfold loopsOf; rw [hid]; simp)
        have hfind : findLoop id c0 = some b := by rw [findLoop_eq]; exact distinct_find hdis hmem
        refine wpIn_loop_of ((hrec.loop C σ rd f id _ ans a fn c0 b ins outs F n hF hro hst.ok hst.glob hst.ents hst.defs hst.size hcode hbody hfind hlive (gets_ok hst.fr ins) hans).mono fun e a' w' => ?_)
        rintro ⟨D, k1, k2, k3, k4, k5, k6, k7, k8, k9⟩
        rw [← k3]
        exact hK D a' ans.e _ ans.σ e ⟨k2, k4, hst.glob.adv k1, slots_ok (FrOk.nil D a') k8, k6, k7⟩ k1 k5 k9 h1
      · cases h
    · cases h

/-! ### a function's results -/
theorem resultsK_sound {R : Type} (hE : EnvOk0 P E) {a : Act} {fr : Tr TV} {σ : St} (hok : Ok P E C) (hc : C.ents = σ.ents) (hf : FrOk C a fr) : ∀ (rs : List ResultVar) {K : List TV → Option R} {r : R}, resultsK E fr σ rs K = some r →
    ∃ vals vs, (rs.mapM fun | .tmp t => pure (a.tmps.getD t undef) | .cell x t => do loadVar t (← asAddr (a.tmps.getD x undef)) : Sem (List Value)).run P C.w = .ok vals C.w ∧ RepL C vals vs ∧ K vs = some r
  | [], K, r, h => ⟨[], [], by simp, RepL.nil, h⟩
  | .tmp t :: rs, K, r, h => by
    unfold resultsK at h
    have h1 := seeK_some h
    obtain ⟨vals, vs, h2, h3, h4⟩ := resultsK_sound hE hok hc hf rs h1
    exact ⟨_, _, by simp only [List.mapM_cons, Sem.run_bind, Sem.run_pure, Result.andThen_ok, h2], RepL.cons (hf t) h3, h4⟩
  | .cell x t :: rs, K, r, h => by
    unfold resultsK at h
    obtain ⟨l, hl, h1⟩ := layK_some h
    obtain ⟨i, hi, hd, hs, _, hag, _⟩ := layOf_facts (hE.lay _ _ hl)
    obtain ⟨b, off, cs, heq, hrd, hk⟩ := derefK_some hok hc (hf x) h1
    rw [hag, hs] at hk
    obtain ⟨val, v, hrun, hr, h2⟩ := loadVar_reads hi hd hrd hk
    obtain ⟨vals, vs, h3, h4, h5⟩ := resultsK_sound hE hok hc hf rs h2
    refine ⟨_, _, ?_, RepL.cons hr h4, h5⟩
    have hasd : asAddr (a.tmps.getD x undef) = pure ⟨b, off, none⟩ := by rw [heq]; rfl
    simp only [List.mapM_cons, Sem.run_bind, Sem.run_pure, Result.andThen_ok, hasd, hrun, h3]

theorem loops_sub {f : FuncId} {n : Nat} {i : Nat} {b : Code} : ∀ {c : Code}, (i, b) ∈ loopsOf c → ((∀ p ∈ loopsOf b, p ∈ loopsOf c) ∧ ∀ p ∈ rangesOf b, p ∈ rangesOf c) ∧ (codeFit E f n c = true → codeFit E f n b = true) := by
  intro c
  induction c with
  | loop x ih =>
    intro h
    unfold loopsOf at h
    rcases List.mem_append.1 h with h | h
    · have hx : b = x := by
        split at h
        · simp at h; exact h.2
        · cases h
      subst hx
      exact ⟨⟨fun p hp => by unfold loopsOf; exact List.mem_append.2 (.inr hp), fun p hp => hp⟩, fun hf => hf⟩
    · obtain ⟨h1, h2⟩ := ih h
      exact ⟨⟨fun p hp => by unfold loopsOf; exact List.mem_append.2 (.inr (h1.1 p hp)), fun p hp => h1.2 p hp⟩, fun hf => h2 hf⟩
  | seq x y ihx ihy =>
    intro h
    unfold loopsOf at h
    rcases List.mem_append.1 h with h | h
    · obtain ⟨h1, h2⟩ := ihx h
      exact ⟨⟨fun p hp => by unfold loopsOf; exact List.mem_append.2 (.inl (h1.1 p hp)), fun p hp => by unfold rangesOf; exact List.mem_append.2 (.inl (h1.2 p hp))⟩, fun hf => h2 (by unfold codeFit at hf; simp only [Bool.and_eq_true] at hf; exact hf.1)⟩
    · obtain ⟨h1, h2⟩ := ihy h
      exact ⟨⟨fun p hp => by unfold loopsOf; exact List.mem_append.2 (.inr (h1.1 p hp)), fun p hp => by unfold rangesOf; exact List.mem_append.2 (.inr (h1.2 p hp))⟩, fun hf => h2 (by unfold codeFit at hf; simp only [Bool.and_eq_true] at hf; exact hf.2)⟩
  | cond z x y ihx ihy =>
    intro h
    unfold loopsOf at h
    rcases List.mem_append.1 h with h | h
    · obtain ⟨h1, h2⟩ := ihx h
      exact ⟨⟨fun p hp => by unfold loopsOf; exact List.mem_append.2 (.inl (h1.1 p hp)), fun p hp => by unfold rangesOf; exact List.mem_append.2 (.inl (h1.2 p hp))⟩, fun hf => h2 (by unfold codeFit at hf; simp only [Bool.and_eq_true] at hf; exact hf.1)⟩
    · obtain ⟨h1, h2⟩ := ihy h
      exact ⟨⟨fun p hp => by unfold loopsOf; exact List.mem_append.2 (.inr (h1.1 p hp)), fun p hp => by unfold rangesOf; exact List.mem_append.2 (.inr (h1.2 p hp))⟩, fun hf => h2 (by unfold codeFit at hf; simp only [Bool.and_eq_true] at hf; exact hf.2)⟩
  | rangeFunc fo ps x y ihx ihy =>
    intro h
    unfold loopsOf at h
    rcases List.mem_append.1 h with h | h
    · obtain ⟨h1, h2⟩ := ihx h
      exact ⟨⟨fun p hp => by unfold loopsOf; exact List.mem_append.2 (.inl (h1.1 p hp)), fun p hp => by unfold rangesOf; exact List.mem_append.2 (.inr (List.mem_append.2 (.inl (h1.2 p hp))))⟩, fun hf => h2 (by unfold codeFit at hf; simp only [Bool.and_eq_true] at hf; exact hf.1.2)⟩
    · obtain ⟨h1, h2⟩ := ihy h
      exact ⟨⟨fun p hp => by unfold loopsOf; exact List.mem_append.2 (.inr (h1.1 p hp)), fun p hp => by unfold rangesOf; exact List.mem_append.2 (.inr (List.mem_append.2 (.inr (h1.2 p hp))))⟩, fun hf => h2 (by unfold codeFit at hf; simp only [Bool.and_eq_true] at hf; exact hf.2)⟩
  | block j x ih => intro h; exact ih h
  | scope x ih => intro h; exact ih h
  | _ => intro h; cases h

theorem ranges_sub {f : FuncId} {n : Nat} {i : Nat} {ps : Array Tmp} {a b : Code} : ∀ {c : Code}, (i, ps, a, b) ∈ rangesOf c →
    ((∀ p ∈ loopsOf a, p ∈ loopsOf c) ∧ ∀ p ∈ rangesOf a, p ∈ rangesOf c) ∧ ((∀ p ∈ loopsOf b, p ∈ loopsOf c) ∧ ∀ p ∈ rangesOf b, p ∈ rangesOf c) ∧ (codeFit E f n c = true → (∀ d ∈ ps.toList, d < n) ∧ codeFit E f n a = true ∧ codeFit E f n b = true) := by
  intro c
  induction c with
  | loop x ih =>
    intro h
    obtain ⟨h1, h2, h3⟩ := ih h
    exact ⟨⟨fun p hp => by unfold loopsOf; exact List.mem_append.2 (.inr (h1.1 p hp)), h1.2⟩, ⟨fun p hp => by unfold loopsOf; exact List.mem_append.2 (.inr (h2.1 p hp)), h2.2⟩, h3⟩
  | seq x y ihx ihy =>
    intro h
    unfold rangesOf at h
    rcases List.mem_append.1 h with h | h
    · obtain ⟨h1, h2, h3⟩ := ihx h
      exact ⟨⟨fun p hp => by unfold loopsOf; exact List.mem_append.2 (.inl (h1.1 p hp)), fun p hp => by unfold rangesOf; exact List.mem_append.2 (.inl (h1.2 p hp))⟩, ⟨fun p hp => by unfold loopsOf; exact List.mem_append.2 (.inl (h2.1 p hp)), fun p hp => by unfold rangesOf; exact List.mem_append.2 (.inl (h2.2 p hp))⟩, fun hf => h3 (by unfold codeFit at hf; simp only [Bool.and_eq_true] at hf; exact hf.1)⟩
    · obtain ⟨h1, h2, h3⟩ := ihy h
      exact ⟨⟨fun p hp => by unfold loopsOf; exact List.mem_append.2 (.inr (h1.1 p hp)), fun p hp => by unfold rangesOf; exact List.mem_append.2 (.inr (h1.2 p hp))⟩, ⟨fun p hp => by unfold loopsOf; exact List.mem_append.2 (.inr (h2.1 p hp)), fun p hp => by unfold rangesOf; exact List.mem_append.2 (.inr (h2.2 p hp))⟩, fun hf => h3 (by unfold codeFit at hf; simp only [Bool.and_eq_true] at hf; exact hf.2)⟩
  | cond z x y ihx ihy =>
    intro h
    unfold rangesOf at h
    rcases List.mem_append.1 h with h | h
    · obtain ⟨h1, h2, h3⟩ := ihx h
      exact ⟨⟨fun p hp => by unfold loopsOf; exact List.mem_append.2 (.inl (h1.1 p hp)), fun p hp => by unfold rangesOf; exact List.mem_append.2 (.inl (h1.2 p hp))⟩, ⟨fun p hp => by unfold loopsOf; exact List.mem_append.2 (.inl (h2.1 p hp)), fun p hp => by unfold rangesOf; exact List.mem_append.2 (.inl (h2.2 p hp))⟩, fun hf => h3 (by unfold codeFit at hf; simp only [Bool.and_eq_true] at hf; exact hf.1)⟩
    · obtain ⟨h1, h2, h3⟩ := ihy h
      exact ⟨⟨fun p hp => by unfold loopsOf; exact List.mem_append.2 (.inr (h1.1 p hp)), fun p hp => by unfold rangesOf; exact List.mem_append.2 (.inr (h1.2 p hp))⟩, ⟨fun p hp => by unfold loopsOf; exact List.mem_append.2 (.inr (h2.1 p hp)), fun p hp => by unfold rangesOf; exact List.mem_append.2 (.inr (h2.2 p hp))⟩, fun hf => h3 (by unfold codeFit at hf; simp only [Bool.and_eq_true] at hf; exact hf.2)⟩
  | rangeFunc fo qs x y ihx ihy =>
    intro h
    unfold rangesOf at h
    rcases List.mem_append.1 h with h | h
    · have hx : ps = qs ∧ a = x ∧ b = y := by
        split at h
        · simp at h; exact h.2
        · cases h
      obtain ⟨rfl, rfl, rfl⟩ := hx
      refine ⟨⟨fun p hp => by unfold loopsOf; exact List.mem_append.2 (.inl hp), fun p hp => by unfold rangesOf; exact List.mem_append.2 (.inr (List.mem_append.2 (.inl hp)))⟩, ⟨fun p hp => by unfold loopsOf; exact List.mem_append.2 (.inr hp), fun p hp => by unfold rangesOf; exact List.mem_append.2 (.inr (List.mem_append.2 (.inr hp)))⟩, fun hf => ?_⟩
      unfold codeFit at hf
      simp only [Bool.and_eq_true, List.all_eq_true, decide_eq_true_eq] at hf
      exact ⟨hf.1.1, hf.1.2, hf.2⟩
    · rcases List.mem_append.1 h with h | h
      · obtain ⟨h1, h2, h3⟩ := ihx h
        exact ⟨⟨fun p hp => by unfold loopsOf; exact List.mem_append.2 (.inl (h1.1 p hp)), fun p hp => by unfold rangesOf; exact List.mem_append.2 (.inr (List.mem_append.2 (.inl (h1.2 p hp))))⟩, ⟨fun p hp => by unfold loopsOf; exact List.mem_append.2 (.inl (h2.1 p hp)), fun p hp => by unfold rangesOf; exact List.mem_append.2 (.inr (List.mem_append.2 (.inl (h2.2 p hp))))⟩, fun hf => h3 (by unfold codeFit at hf; simp only [Bool.and_eq_true] at hf; exact hf.1.2)⟩
      · obtain ⟨h1, h2, h3⟩ := ihy h
        exact ⟨⟨fun p hp => by unfold loopsOf; exact List.mem_append.2 (.inr (h1.1 p hp)), fun p hp => by unfold rangesOf; exact List.mem_append.2 (.inr (List.mem_append.2 (.inr (h1.2 p hp))))⟩, ⟨fun p hp => by unfold loopsOf; exact List.mem_append.2 (.inr (h2.1 p hp)), fun p hp => by unfold rangesOf; exact List.mem_append.2 (.inr (List.mem_append.2 (.inr (h2.2 p hp))))⟩, fun hf => h3 (by unfold codeFit at hf; simp only [Bool.and_eq_true] at hf; exact hf.2)⟩
  | block j x ih => intro h; exact ih h
  | scope x ih => intro h; exact ih h
  | _ => intro h; cases h

theorem find_mem {β : Type} {l : List (Nat × β)} {i : Nat} {b : β} (h : (l.find? fun p => Nat.beq p.1 i).map (·.2) = some b) : ∃ j, (j, b) ∈ l := by
  cases hf : l.find? (fun p => Nat.beq p.1 i) with
  | none => rw [hf] at h; cases h
  | some p =>
    rw [hf] at h
    cases h
    exact ⟨p.1, List.mem_of_find?_eq_some hf⟩

theorem tupleOf_rep {vals : List Value} {vs : List TV} (h : RepL C vals vs) : Rep C (if h : vals.toArray.size = 1 then vals.toArray[0] else .tuple vals.toArray) (tupleOf vs) := by
  match vals, vs, h with
  | [v], [t], h => exact h.head.1
  | [], [], h => exact Rep.mkTuple h
  | a :: b :: vals, s :: t :: vs, h => exact Rep.mkTuple h
  | [], _ :: _, h => exact absurd h.1 (by simp)
  | _ :: _, [], h => exact absurd h.1 (by simp)
  | [_], _ :: _ :: _, h => exact absurd h.1 (by simp)
  | _ :: _ :: _, [_], h => exact absurd h.1 (by simp)

theorem results_run {fn : Func} {a : Act} {vals : List Value} {w : World}
    (h : (fn.results.toList.mapM fun | .tmp t => pure (a.tmps.getD t undef) | .cell x t => do loadVar t (← asAddr (a.tmps.getD x undef)) : Sem (List Value)).run P w = .ok vals w) :
    (results fn a.tmps).run P w = .ok (if h : vals.toArray.size = 1 then vals.toArray[0] else .tuple vals.toArray) w := by
  unfold results
  have h1 : ∀ X : Sem (List Value), X.run P w = .ok vals w → ((List.toArray <$> X : Sem (Array Value))).run P w = .ok vals.toArray w := by
    intro X hX
    show ((X >>= fun v => pure v.toArray : Sem (Array Value))).run P w = _
    rw [Sem.run_bind, hX]; rfl
  rw [Sem.run_bind, Array.mapM_eq_mapM_toList]
  exact congrArg (fun q : Result (Array Value) => q.andThen fun a w' => (pure (if h : a.size = 1 then a[0] else Value.tuple a) : Sem Value).run P w') (h1 _ h)

theorem args_getD (vs : Array Value) (n j : Nat) {v : Value} (h : vs.toList[j]? = some v) : (vs ++ Array.replicate n undef).getD j undef = v := by
  have hlt : j < vs.size := by
    rw [← Array.length_toList]; exact (List.getElem?_eq_some_iff.1 h).1
  rw [Array.getD_eq_getD_getElem?, Array.getElem?_append_left hlt, ← Array.getElem?_toList, h]; rfl

/-- What is deferred is done. -/
theorem leave_sound {R : Type} (hE : EnvOk P E) {rec : Rec} (hrec : RecOk P E rec) {fn : Func} {tmps : Array Value} {Rp : Ending → World → Prop} {K : St → Option R} {r : R} :
    ∀ (xs : List Dfr) {C : Ctx} {σ : St} {ds : List Deferred}, Ok P E C → GOk E C → C.ents = σ.ents → DefsOk C xs ds → leaveK E rec xs σ K = some r →
      (∀ D σ', Adv C D → Ok P E D → D.ents = σ'.ents → Tame0 σ σ' → K σ' = some r → LeavesIn Fence.wide 0 P fn tmps Rp [] .returning D.w) →
      LeavesInM Fence.wide 0 P fn tmps Rp ds .returning C.w
  | [], C, σ, ds, hok, hg, hc, hd, h, hK => by
    rw [hd.nil_inv]
    exact hK C σ (Adv.refl C) hok hc (Tame0.refl σ) h
  | .mark m :: xs, C, σ, [], hok, hg, hc, hd, h, hK => hd.elim
  | .fn g us :: xs, C, σ, [], hok, hg, hc, hd, h, hK => hd.elim
  | .mark m :: xs, C, σ, d :: ds, hok, hg, hc, hd, h, hK => by
    obtain ⟨⟨hp, rfl⟩, hds⟩ := hd
    unfold leaveK at h
    split at h
    · rename_i hent
      have hent' : C.ents[m]? = some .dfr := by rw [hc]; exact hent
      obtain ⟨q0, q1⟩ := hok.obj _ _ hent'
      obtain ⟨n1, n2⟩ := putE_ok (e' := .dead) (o := .deferred none) hok hent' trivial (fun _ _ _ h => nomatch h) (fun _ _ _ h => nomatch h) q0 (fun arr ty fr h => by rw [q1] at h; cases h) (fun _ => trivial)
      refine ⟨by simp, .inl ⟨C.loc m, (C.putE m .dead (.deferred none)).w, rfl, run_takeDeferred q1, ?_⟩⟩
      have ht : Tame0 σ (σ.put m .dead) := (Tame.put (e' := .dead) hent (fun n _ _ => Nat.zero_le n)).t0
      exact leave_sound hE hrec xs n2 (hg.adv n1) (by show C.ents.set _ _ = _; rw [hc]; rfl) (hds.adv n1) h fun D σ' k1 k2 k3 k4 k5 => hK D σ' (n1.trans k1) k2 k3 (ht.trans k4) k5
    · cases h
  | .fn g us :: xs, C, σ, d :: ds, hok, hg, hc, hd, h, hK => by
    obtain ⟨⟨ys, as, rfl, hus⟩, hds⟩ := hd
    unfold leaveK at h
    obtain ⟨a, ha, h1⟩ := bindR_some h
    obtain ⟨henter, hcalls⟩ := hrec.dcall C ⟨σ.ents, false, []⟩ g us (as ++ ys) a hok hg hc rfl hus ha
    refine ⟨by simp, .inr ⟨(fun hd => by cases hd), .func g, ys, g, as ++ ys, rfl, henter, fun g _ => trivial, (hcalls _ _).mono fun e u' w' => ?_⟩⟩
    rintro ⟨rfl, D, m1, m2, m3, m4, m5, m6⟩
    split at h1
    · rename_i he
      rw [he] at m6
      have hv : ∃ v, a.vs = [v] := by
        match hvs : a.vs with
        | [v] => exact ⟨v, rfl⟩
        | [] => rw [hvs] at m6; exact m6.elim
        | _ :: _ :: _ => rw [hvs] at m6; exact m6.elim
      obtain ⟨v, hv⟩ := hv
      rw [hv] at m6
      obtain ⟨val, rfl, _⟩ := m6
      have ht : Tame0 σ ⟨a.σ.ents, σ.esc || a.σ.esc, σ.defs⟩ := by
        refine ⟨m5.len, fun hesc => ?_⟩
        have hesc' : (σ.esc || a.σ.esc) = false := hesc
        rw [Bool.or_eq_false_iff] at hesc'
        exact ⟨hesc'.1, (m5.esc hesc'.2).2⟩
      show LeavesInM Fence.wide 0 P fn tmps Rp ds (settle .returning) w'
      rw [← m3]
      exact leave_sound hE hrec xs (σ := ⟨a.σ.ents, σ.esc || a.σ.esc, σ.defs⟩) m2 (hg.adv m1) m4 (hds.adv m1) h1 fun D' σ' k1 k2 k3 k4 k5 => hK D' σ' (m1.trans k1) k2 k3 (ht.trans k4) k5
    · cases h1

/-- Slots are laid. -/
theorem zip_ok {n : Nat} (hn : n < 4096) (defs : List Deferred) : ∀ (ts : List Nat) (vs : List Value) (us : List TV) (tmps : Array Value) (fr : Tr TV), RepL C vs us → ts.length = us.length → (∀ t ∈ ts, t < n) → n ≤ tmps.size →
    FrOk C { tmps := tmps, defers := defs } fr →
    FrOk C { tmps := (ts.zip vs).foldl (fun tmps (p : Nat × Value) => tmps.setIfInBounds p.1 p.2) tmps, defers := defs } (ofSlots ts us fr) ∧ n ≤ ((ts.zip vs).foldl (fun tmps (p : Nat × Value) => tmps.setIfInBounds p.1 p.2) tmps).size
  | [], vs, us, tmps, fr, _, _, _, hs, hf => by cases us <;> exact ⟨hf, hs⟩
  | t :: ts, vs, [], tmps, fr, _, hl, _, _, _ => by simp at hl
  | t :: ts, vs, u :: us, tmps, fr, hr, hl, ht, hs, hf => by
    obtain ⟨v, vs, rfl, h1, h2⟩ := hr.cons_inv
    have htn := ht t List.mem_cons_self
    exact zip_ok hn defs ts vs us (tmps.setIfInBounds t v) (fr.set 12 t u) h2 (by simpa using hl) (fun s hs => ht s (List.mem_cons_of_mem _ hs)) (by rw [Array.size_setIfInBounds]; exact hs) (hf.set h1 (by show t < tmps.size; omega) (by omega) defs)

theorem stepR_ok (hE : EnvOk P E) {rec : Rec} (hrec : RecOk P E rec) : RecOk P E (stepR E rec) where
  call C σ f args vs ans hok hg hc hd hvs h := by
    unfold stepR at h
    simp only at h
    split at h
    · rename_i fn hcode
      split at h
      · rename_i c hbody
        obtain ⟨hsz, hfit, _⟩ := hE.fit f fn c hcode hbody
        have hfn := hE.code f fn hcode
        have hname := hE.name f fn hcode
        have henter : (callFunc f vs).run P C.w = .ok (.enter f vs) C.w := by
          have hname' : fn.name ≠ "runtime.NumGoroutine" := by simpa using hname
          simp [callFunc, hfn, hname', hbody]
        refine ⟨henter, (callsIn_wide (n := 0)).1 (callsIn_of_wp_marks hfn hbody trivial ?_)⟩
        have hst : StOk P E C { tmps := vs ++ Array.replicate (fn.ntmps - vs.size) undef, defers := [] } (argSlots 0 args .nil) σ fn.ntmps := by
          refine ⟨hok, hc, hg, argSlots_ok (FrOk.nil C _) (fun j v hj => ?_), by show _ ≤ (vs ++ Array.replicate _ _).size; simp; omega, by rw [hd]; trivial⟩
          have hlt : j < vs.toList.length := by rw [hvs.1]; exact (List.getElem?_eq_some_iff.1 hj).1
          have hv : vs.toList[j]? = some vs.toList[j] := List.getElem?_eq_getElem hlt
          show Rep C ((vs ++ Array.replicate _ undef).getD (0 + j) undef) v
          rw [Nat.zero_add, args_getD vs _ j hv]
          exact hvs.2 j _ v hv hj
        refine evalCode_sound (n := 0) (P := P) hE hrec (F := Fence.wide) (.inl rfl) rfl hcode hbody c hfit ⟨fun _ hp => hp, fun _ hp => hp⟩ hst h fun D a' te fr' σ' e h1 h2 h3 h4 h5 => ?_
        have fin : (finK E rec σ' fun σ => resultsK E fr' σ fn.results.toList fun vs => freezeK (tupleOf vs) σ fun v σ => some (Ans.mk .ret [v] σ)) = some ans → LeavesInM Fence.wide 0 P fn a'.tmps (AnsC P E C σ ans) a'.defers .returning D.w := by
          intro h6
          unfold finK at h6
          refine leave_sound hE hrec σ'.defs h1.ok h1.glob (by exact h1.ents) h1.defs h6 fun D1 σ1 k1 k2 k3 k4 k5 => ?_
          obtain ⟨vals, us, q1, q2, q3⟩ := resultsK_sound hE.toEnvOk0 k2 k3 (h1.fr.ext k1.rep) _ k5
          obtain ⟨D2, v2, σ2, m1, m2, m3, m4, m5, m6, m7⟩ := freezeK_sound _ k2 k3 (tupleOf_rep q2) q3
          cases m7
          exact ⟨_, results_run q1, D2, (h2.trans k1).trans m1, m2, m3, m4, h3.trans ((k4.of (τ₁ := σ') (τ₂ := σ1) rfl rfl rfl rfl).trans m5.t0), _, rfl, m6⟩
        cases te with
        | normal =>
          have he : e = .normal := h4
          subst he
          exact fin h5
        | ret =>
          have he : e = .ret := h4
          subst he
          exact fin h5
        | exit i => cases h5
        | pan v =>
          obtain ⟨val, rfl, hr⟩ := h4
          simp only at h5
          split at h5
          · rename_i hdn
            cases h5
            have hdd := h1.defs
            rw [hdn] at hdd
            show LeavesInM Fence.wide 0 P fn a'.tmps _ a'.defers _ _
            rw [hdd.nil_inv]
            exact ⟨D, h2, h1.ok, rfl, h1.ents, h3, val, rfl, hr⟩
          · cases h5
      · cases h
    · cases h
  dcall C σ f args vs ans hok hg hc hd hvs h := by
    unfold stepR at h
    simp only at h
    split at h
    · rename_i fn hcode
      split at h
      · rename_i c hbody
        obtain ⟨hsz, hfit, _⟩ := hE.fit f fn c hcode hbody
        have hfn := hE.code f fn hcode
        have hname := hE.name f fn hcode
        have henter : (callFunc f vs).run P C.w = .ok (.enter f vs) C.w := by
          have hname' : fn.name ≠ "runtime.NumGoroutine" := by simpa using hname
          simp [callFunc, hfn, hname', hbody]
        refine ⟨henter, fun n u => callsDIn_of_wp hfn hbody trivial ?_⟩
        have hst : StOk P E C { tmps := vs ++ Array.replicate (fn.ntmps - vs.size) undef, defers := [] } (argSlots 0 args .nil) σ fn.ntmps := by
          refine ⟨hok, hc, hg, argSlots_ok (FrOk.nil C _) (fun j v hj => ?_), by show _ ≤ (vs ++ Array.replicate _ _).size; simp; omega, by rw [hd]; trivial⟩
          have hlt : j < vs.toList.length := by rw [hvs.1]; exact (List.getElem?_eq_some_iff.1 hj).1
          have hv : vs.toList[j]? = some vs.toList[j] := List.getElem?_eq_getElem hlt
          show Rep C ((vs ++ Array.replicate _ undef).getD (0 + j) undef) v
          rw [Nat.zero_add, args_getD vs _ j hv]
          exact hvs.2 j _ v hv hj
        refine evalCode_sound (n := n) (P := P) hE hrec (F := Fence.wide) (.inl rfl) rfl hcode hbody c hfit ⟨fun _ hp => hp, fun _ hp => hp⟩ hst h fun D a' te fr' σ' e h1 h2 h3 h4 h5 => ?_
        split at h5
        · rename_i hdn
          have hdd := h1.defs
          rw [hdn] at hdd
          have fin : (resultsK E fr' σ' fn.results.toList fun vs => freezeK (tupleOf vs) σ' fun v σ => some (Ans.mk .ret [v] σ)) = some ans → a'.defers = [] ∧ ∃ v, (results fn a'.tmps).run P D.w = .ok v D.w ∧ AnsC P E C σ ans (.returned v) D.w := by
            intro h6
            obtain ⟨vals, us, q1, q2, q3⟩ := resultsK_sound hE.toEnvOk0 h1.ok h1.ents h1.fr _ h6
            obtain ⟨D2, v2, σ2, m1, m2, m3, m4, m5, m6, m7⟩ := freezeK_sound _ h1.ok h1.ents (tupleOf_rep q2) q3
            cases m7
            exact ⟨hdd.nil_inv, _, results_run q1, D2, h2.trans m1, m2, m3, m4, h3.trans m5.t0, _, rfl, m6⟩
          cases te with
          | normal =>
            have he : e = .normal := h4
            subst he
            exact fin h5
          | ret =>
            have he : e = .ret := h4
            subst he
            exact fin h5
          | exit i => cases h5
          | pan v => cases h5
        · cases h5
      · cases h
    · cases h
  loop C σ rd f id ts ans act fn c b ins outs F n hF hro hok hg hc hd hsize hcode hbody hfind hlive hts h := by
    unfold stepR at h
    simp only [hcode, hlive, hbody, hfind] at h
    obtain ⟨hsz, hfit, hdis, _⟩ := hE.fit f fn c hcode hbody
    obtain ⟨j, hmem⟩ := find_mem (by rw [← findLoop_eq]; exact hfind)
    obtain ⟨hsub, hfitb⟩ := loops_sub (E := E) (f := f) (n := fn.ntmps) hmem
    have hst : StOk P E C act (ofSlots ins ts .nil) σ fn.ntmps := ⟨hok, hc, hg, slots_ok (FrOk.nil C act) hts, hsize, hd⟩
    refine loopWp_round (evalCode_sound (n := n) hE hrec hF hro hcode hbody b (hfitb hfit) hsub hst h fun D a' te fr' σ' e h1 h2 h3 h4 h5 => ?_)
    have out : te ≠ .normal → some (Ans.mk te (gets fr' outs) σ') = some ans → LoopPost P E C σ fn.ntmps outs ans e a' D.w := by
      intro _ h6
      cases h6
      exact ⟨D, h2, h1.ok, rfl, h1.ents, h3, h1.size, h1.defs, gets_ok h1.fr outs, h4⟩
    cases te with
    | normal =>
      have he : e = .normal := h4
      subst he
      refine (hrec.loop D σ' rd f id _ ans a' fn c b ins outs F n hF hro h1.ok h1.glob h1.ents h1.defs h1.size hcode hbody hfind hlive (gets_ok h1.fr ins) h5).mono fun e' a'' w' => ?_
      rintro ⟨D', k1, k2, k3, k4, k5, k6, k7, k8, k9⟩
      exact ⟨D', h2.trans k1, k2, k3, k4, h3.trans k5, k6, k7, k8, k9⟩
    | ret =>
      have he : e = .ret := h4
      subst he
      exact out (by simp) h5
    | exit i =>
      have he : e = .exit i := h4
      subst he
      exact out (by simp) h5
    | pan v =>
      have hx := out (by simp) h5
      obtain ⟨val, rfl, hr⟩ := h4
      exact hx
  round C σ r args vs ans hok hg hc hd hvs h := by
    unfold stepR at h
    simp only at h
    split at h
    · rename_i f id vals st pend hent
      have hent' : C.ents[r]? = some (.rl f id vals st pend) := by rw [hc]; exact hent
      obtain ⟨q0, tmps, ps, x, y, d, fn, c, ins, outs, f0, q1, q2, q3, q4, q5, q6, q7⟩ := hok.obj r _ hent'
      split at h
      · rename_i fn' ins' outs' hcode hlive'
        have := hE.code f fn' hcode
        rw [q2] at this
        cases this
        rw [q6] at hlive'
        cases hlive'
        rw [q3] at h
        simp only [q5] at h
        obtain ⟨hb, h1⟩ := tst_none h
        simp only [Bool.and_eq_true] at hb
        have hst0 := Nat.eq_of_beq_eq_true hb.1
        have hpl := Nat.eq_of_beq_eq_true hb.2
        subst hst0
        obtain ⟨hsz, hfit, hdis, hdisr⟩ := hE.fit f fn c hcode q3
        obtain ⟨j, hmem⟩ := find_mem (by rw [← findRange_eq]; exact q5)
        obtain ⟨hsx, hsy, hfits⟩ := ranges_sub (E := E) (f := f) (n := fn.ntmps) hmem
        obtain ⟨hps, hfx, hfy⟩ := hfits hfit
        have hplain : C.plain r := ⟨(List.getElem?_eq_some_iff.1 hent').1, fun v p s ht => by unfold Ctx.tok at ht; rw [hent'] at ht; cases ht⟩
        refine ⟨_, q1, ?_, fun F n hF => ?_⟩
        · show vs.size = ps.size
          rw [hpl, ← hvs.1, Array.length_toList]
        · have hFr : FW (F.inRound (C.loc r)) := by
            rcases hF with rfl | ⟨l, rfl⟩
            · exact .inr ⟨_, rfl⟩
            · exact .inr ⟨_, rfl⟩
          have hfold : (ps.zip vs).foldl (fun tmps (t, a) => tmps.setIfInBounds t a) tmps = (ps.toList.zip vs.toList).foldl (fun tmps (p : Nat × Value) => tmps.setIfInBounds p.1 p.2) tmps := by
            rw [← Array.foldl_toList, Array.toList_zip]
          have hz := zip_ok (C := C) (n := fn.ntmps) hsz [] ps.toList vs.toList args tmps (ofSlots ins vals .nil) hvs (by rw [Array.length_toList]; exact hpl) hps q4 (slots_ok (a := { tmps := tmps, defers := [] }) (FrOk.nil C _) q7)
          rw [← hfold] at hz
          have hst1 : StOk P E C { tmps := (ps.zip vs).foldl (fun tmps (t, a) => tmps.setIfInBounds t a) tmps, defers := [] } (ofSlots ps.toList args (ofSlots ins vals .nil)) σ fn.ntmps :=
            ⟨hok, hc, hg, hz.1, hz.2, by rw [hd]; trivial⟩
          refine roundIn_of_wpIn (hF.fn f0) ?_
          refine evalCode_sound (n := n) hE hrec hFr rfl hcode q3 x hfx ⟨fun p hp => hsx.1 p hp, fun p hp => hsx.2 p hp⟩ hst1 h1 fun D a' te fr' σ' e h2 h3 h4 h5 h6 => ?_
          cases te with
          | normal =>
            have he : e = .normal := h5
            subst he
            simp only at h6
            split at h6
            · rename_i f₁ id₁ vals₁ pend₁ hent1
              have hent1' : D.ents[r]? = some (.rl f₁ id₁ vals₁ 0 pend₁) := by rw [h2.ents]; exact hent1
              have hloc := (h3.plain r hplain).2
              obtain ⟨w0, tmps1, ps1, x1, y1, d1, fn1, c1, ins1, outs1, f01, w1, w2, w3, w4, w5, w6, w7⟩ := h2.ok.obj r _ hent1'
              obtain ⟨n1, n2⟩ := putE_ok (e' := .rl f₁ id₁ vals₁ 1 none) (o := .loop { state := .busy, pending := none, fn := f01, tmps := tmps1, params := ps1, assign := x1, body := y1, defers := d1 }) h2.ok hent1' trivial (fun _ _ _ h => nomatch h) (fun _ _ _ h => nomatch h) w0
                (fun arr ty fr h => by rw [w1] at h; cases h) (fun hx => ⟨w0, tmps1, ps1, x1, y1, d1, fn1, c1, ins1, outs1, f01, putE_heap (h2.ok.lt r _ hent1' trivial).2, w2, w3, w4, w5, w6, w7.ext hx⟩)
              have hbr := run_beginRound (P := P) w1 rfl
              refine ⟨_, by rw [← hloc]; exact hbr, ?_⟩
              have hst2 : StOk P E (D.putE r (.rl f₁ id₁ vals₁ 1 none) (.loop { state := .busy, pending := none, fn := f01, tmps := tmps1, params := ps1, assign := x1, body := y1, defers := d1 })) a' fr' (σ'.put r (.rl f₁ id₁ vals₁ 1 none)) fn.ntmps :=
                ⟨n2, by show D.ents.set _ _ = _; rw [h2.ents]; rfl, h2.glob.adv n1, h2.fr.ext n1.rep, h2.size, h2.defs.adv n1⟩
              have ht2 : Tame0 σ' (σ'.put r (.rl f₁ id₁ vals₁ 1 none)) := (Tame.put (e' := .rl f₁ id₁ vals₁ 1 none) hent1 (fun n _ h => h)).t0
              have hw : D.w.putObj (D.loc r) (.loop { state := .busy, pending := lpend 0 pend₁, fn := f01, tmps := tmps1, params := ps1, assign := x1, body := y1, defers := d1 }) = (D.putE r (.rl f₁ id₁ vals₁ 1 none) (.loop { state := .busy, pending := none, fn := f01, tmps := tmps1, params := ps1, assign := x1, body := y1, defers := d1 })).w := rfl
              show y.wpIn _ _ _ _ _ (D.w.putObj (D.loc r) (.loop { state := .busy, pending := lpend 0 pend₁, fn := f01, tmps := tmps1, params := ps1, assign := x1, body := y1, defers := d1 }))
              rw [hw]
              generalize hDD : D.putE r (.rl f₁ id₁ vals₁ 1 none) (.loop { state := .busy, pending := none, fn := f01, tmps := tmps1, params := ps1, assign := x1, body := y1, defers := d1 }) = DD at *
              refine evalCode_sound (n := n) hE hrec hFr rfl hcode q3 y hfy ⟨fun p hp => hsy.1 p hp, fun p hp => hsy.2 p hp⟩ hst2 h6 fun D3 a3 te3 fr3 σ3 e3 m1 m2 m3 m4 m5 => ?_
              split at m5
              · rename_i f₂ id₂ vals₂ pend₂ hent2
                have hent2' : D3.ents[r]? = some (.rl f₂ id₂ vals₂ 1 pend₂) := by rw [m1.ents]; exact hent2
                have hloc3 : D3.loc r = C.loc r := by
                  rw [(m2.plain r (n1.plain r (h3.plain r hplain).1).1).2, (n1.plain r (h3.plain r hplain).1).2, hloc]
                obtain ⟨u0, tmps2, ps2, x2, y2, d2, fn2, c2, ins2, outs2, f02, u1, u2, u3, u4, u5, u6, u7⟩ := m1.ok.obj r _ hent2'
                have endsIn : ∀ (st : Nat) (pn : Option Nat) (jump : Option Code), lpend st pn = jump → lstate st = (if jump.isNone then .ready else .done) → ans = ⟨.ret, [.bool jump.isNone], σ3.put r (.rl f₂ id₂ vals₂ st pn)⟩ →
                    ∃ v w', (Instr.endRound (C.loc r) jump).run P D3.w = .ok v w' ∧ AnsC P E C σ ans (.returned v) w' := by
                  intro st pn jump hj hs hans
                  obtain ⟨v1, v2⟩ := putE_ok (e' := .rl f₂ id₂ vals₂ st pn) (o := .loop { state := lstate st, pending := lpend st pn, fn := f02, tmps := tmps2, params := ps2, assign := x2, body := y2, defers := d2 }) m1.ok hent2' trivial (fun _ _ _ h => nomatch h) (fun _ _ _ h => nomatch h) u0
                    (fun arr ty fr h => by rw [u1] at h; cases h) (fun hx => ⟨u0, tmps2, ps2, x2, y2, d2, fn2, c2, ins2, outs2, f02, putE_heap (m1.ok.lt r _ hent2' trivial).2, u2, u3, u4, u5, u6, u7.ext hx⟩)
                  have hrun := run_endRound (P := P) jump u1
                  refine ⟨_, _, by rw [← hloc3]; exact hrun, ?_⟩
                  subst hans
                  refine ⟨_, ((h3.trans n1).trans m2).trans v1, v2, ?_, by show D3.ents.set _ _ = _; rw [m1.ents]; rfl, h4.trans (ht2.trans (m3.trans (Tame.put (e' := .rl f₂ id₂ vals₂ st pn) hent2 (fun n _ h => h)).t0)), _, rfl, .bool _⟩
                  show (D3.w.putObj (D3.loc r) _) = (D3.w.putObj (D3.loc r) _)
                  rw [hj, hs]
                cases te3 with
                | normal =>
                  have he : e3 = .normal := m4
                  subst he
                  exact endsIn 0 none none rfl rfl (by cases m5; rfl)
                | ret =>
                  have he : e3 = .ret := m4
                  subst he
                  exact endsIn 2 none (some .ret) rfl rfl (by cases m5; rfl)
                | exit i =>
                  have he : e3 = .exit i := m4
                  subst he
                  exact endsIn 2 (some i) (some (.exit i)) rfl rfl (by cases m5; rfl)
                | pan v => cases m5
              · cases m5
            · cases h6
          | ret => cases h6
          | exit i => cases h6
          | pan v => cases h6
      · cases h
    · cases h

theorem run_ok (hE : EnvOk P E) : ∀ k, RecOk P E (run E k)
  | 0 => { call := (by intros; rename_i h; cases h), loop := (by intros; rename_i h; cases h), round := (by intros; rename_i h; cases h), dcall := (by intros; rename_i h; cases h) }
  | k + 1 => stepR_ok hE (run_ok hE k)
end
end Go.Tv

/- A seat's tables. -/
namespace Go.Tv
open Go Go.RowKit

abbrev ExtFn := List TV → St → Option (TV × St)

structure Tab where
  top : Nat
  ok : Nat
  iso : Nat
  glob : List (Nat × List TV)
  live : List (Nat × List (Nat × List Nat × List Nat))
  ext : List (Nat × ExtFn)
  pext : List (Nat × (List TV → Option TV))
  bad : List (Nat × Nat)

def bad2 : List (Nat × Nat) → Nat → Nat → Bool
  | [], _, _ => false
  | (i, j) :: r, n, m => (Nat.beq i n && Nat.beq j m) || bad2 r n m

def lookN {α : Type} : List (Nat × α) → Nat → Option α
  | [], _ => none
  | (i, x) :: r, n => match Nat.beq i n with | true => some x | false => lookN r n

theorem lookN_mem {α : Type} : ∀ {l : List (Nat × α)} {n : Nat} {x : α}, lookN l n = some x → (n, x) ∈ l
  | [], _, _, h => nomatch h
  | (i, y) :: r, n, x, h => by
    unfold lookN at h
    split at h
    · rename_i hb
      cases h
      rw [Nat.eq_of_beq_eq_true hb]
      exact List.mem_cons_self
    · exact List.mem_cons_of_mem _ (lookN_mem h)

def Tab.env (P : Program) (T : Tab) : Env where
  code f := tst (Nat.blt f T.top && T.ok.testBit f) (P.funcs[f]?) none
  lay := layOf P
  glob g := (lookN T.glob g).getD []
  iso f := T.iso.testBit f
  live f id := match lookN T.live f with | some l => lookN l id | none => none
  ext f := lookN T.ext f
  bad f id := bad2 T.bad f id
  pext f := lookN T.pext f

/-- may this function be walked? -/
def fitB (E : Env) (f : FuncId) (fn : Func) : Bool :=
  !(fn.name == "runtime.NumGoroutine") && match fn.body with
  | some c => Nat.blt fn.ntmps 4096 && codeFit E f fn.ntmps c && distinct ((loopsOf c).map (·.1)) && distinct ((rangesOf c).map (·.1))
  | none => true

def fitAll (P : Program) (T : Tab) : Nat → Nat → Bool
  | 0, _ => true
  | n + 1, f => (!(T.ok.testBit f) || (match P.funcs[f]? with | some fn => fitB (T.env P) f fn | none => true)) && fitAll P T n (f + 1)

theorem fitAll_at {P : Program} {T : Tab} : ∀ {n f : Nat}, fitAll P T n f = true → ∀ g, f ≤ g → g < f + n → T.ok.testBit g = true → ∀ fn, P.funcs[g]? = some fn → fitB (T.env P) g fn = true
  | 0, f, _, g, h1, h2 => by omega
  | n + 1, f, h, g, h1, h2 => by
    intro hok fn hfn
    simp only [fitAll, Bool.and_eq_true, Bool.or_eq_true, Bool.not_eq_true'] at h
    rcases Nat.eq_or_lt_of_le h1 with rfl | h3
    · rcases h.1 with h4 | h4
      · rw [hok] at h4; cases h4
      · rw [hfn] at h4; exact h4
    · exact fitAll_at h.2 g (by omega) (by omega) hok fn hfn

theorem env_ok {P : Program} {T : Tab} (hm : P.follows .mixedOrders = true) (hfit : ∀ g, g < T.top → T.ok.testBit g = true → ∀ fn, P.funcs[g]? = some fn → fitB (T.env P) g fn = true)
    (hext : ∀ f g, lookN T.ext f = some g → ExtSound P (T.env P) f g)
    (hpext : ∀ f g, lookN T.pext f = some g → ExtSound P (T.env P) f (fun args σ => match g args with | some v => some (v, σ) | none => none)) : EnvOk P (T.env P) := by
  have hcode : ∀ f fn, (T.env P).code f = some fn → f < T.top ∧ T.ok.testBit f = true ∧ P.funcs[f]? = some fn := by
    intro f fn h
    obtain ⟨h1, h2⟩ := tst_none (b := Nat.blt f T.top && T.ok.testBit f) h
    simp only [Bool.and_eq_true] at h1
    exact ⟨by simpa [Nat.blt_eq] using h1.1, h1.2, h2⟩
  exact {
    code := fun f fn h => (hcode f fn h).2.2
    lay := fun _ _ h => h
    fit := fun f fn c h hb => by
      obtain ⟨h1, h2, h3⟩ := hcode f fn h
      have := hfit f h1 h2 fn h3
      unfold fitB at this
      rw [hb] at this
      simp only [Bool.and_eq_true] at this
      exact ⟨by simpa [Nat.blt_eq] using this.2.1.1.1, this.2.1.1.2, this.2.1.2, this.2.2⟩
    mixed := hm
    name := fun f fn h => by
      obtain ⟨h1, h2, h3⟩ := hcode f fn h
      have := hfit f h1 h2 fn h3
      unfold fitB at this
      simp only [Bool.and_eq_true, Bool.not_eq_true'] at this
      exact this.1
    ext := fun f g h => hext f g h
    pext := fun f g h => hpext f g h }

/-! ### the start -/
/-- The state in which a call begins: all that lies in memory is only read. -/
def Ctx.start (w : World) : Ctx where
  w := w
  ents := []
  loc := fun _ => 0
  fz := fun b => match w.heap[b]? with | some (.cells arr _ _) => arr.size | _ => 0
  fe := fun _ => 0
  base := w.heap.size

theorem start_ok {P : Program} {E : Env} (w : World) : Ok P E (Ctx.start w) where
  lt r e h := by simp [Ctx.start] at h
  inj r s e f h := by simp [Ctx.start] at h
  obj r e h := by simp [Ctx.start] at h
  fresh b hb := by
    show (match w.heap[b]? with | some (.cells arr _ _) => arr.size | _ => 0) = 0
    have hb' : w.heap.size ≤ b := hb
    rw [Array.getElem?_eq_none hb']
  base := Nat.le_refl _

theorem start_fz {w : World} {b off : Nat} {v : Value} (h : w.cell? ⟨b, off, none⟩ = some v) : off < (Ctx.start w).fz b := by
  show off < (match w.heap[b]? with | some (.cells arr _ _) => arr.size | _ => 0)
  simp only [World.cell?] at h
  split at h
  · rename_i heq
    rw [heq]
    simp only
    have := (Array.getElem?_eq_some_iff.1 h).1
    exact this
  · cases h

/-- Cells in a row, from a place on, that may be read at the start. -/
theorem start_view {w : World} {b off : Nat} {cs : List TV} (hb : Bare cs) (h0 : cs.length = 0 → off = 0) (vs : List Value) (hl : vs.length = cs.length) (hc : ∀ (j : Nat) (v : Value), vs[j]? = some v → w.cell? ⟨b, off + j, none⟩ = some v)
    (hr : ∀ (j : Nat) (v : Value) (c : TV), vs[j]? = some v → cs[j]? = some c → Rep (Ctx.start w) v c) : Rep (Ctx.start w) (.pointer (some ⟨b, off, none⟩)) (.view .sh cs) := by
  refine .view (o := .sh) (fun j => (vs[j]?).getD Go.undef) ?_ hb (fun _ j hj => ?_) (fun j c hj => ?_)
  · show off + cs.length ≤ (Ctx.start w).fz b
    cases hn : cs.length with
    | zero => rw [h0 hn]; exact Nat.zero_le _
    | succ n =>
      have hlt : n < vs.length := by omega
      have := start_fz (hc n _ (List.getElem?_eq_getElem hlt))
      omega
  · have hlt : j < vs.length := by omega
    rw [List.getElem?_eq_getElem hlt]
    exact hc j _ (List.getElem?_eq_getElem hlt)
  · have hlt : j < vs.length := by rw [hl]; exact (List.getElem?_eq_some_iff.1 hj).1
    rw [List.getElem?_eq_getElem hlt]
    exact hr j _ c (List.getElem?_eq_getElem hlt) hj

theorem ofVal1_bare (v : Value) : (ofVal1 v).refs = 0 ∧ (ofVal1 v).noex = true := by
  unfold ofVal1
  split <;> exact ⟨rfl, rfl⟩
theorem bare_map (vs : List Value) : Bare (vs.map ofVal1) := by
  refine ⟨refsL_iff.2 fun v hv => ?_, noexL_iff.2 fun v hv => ?_⟩
  · obtain ⟨u, _, rfl⟩ := List.mem_map.1 hv; exact (ofVal1_bare u).1
  · obtain ⟨u, _, rfl⟩ := List.mem_map.1 hv; exact (ofVal1_bare u).2

theorem gok_start {P : Program} {T : Tab} {w : World} (h : ∀ g cs, (g, cs) ∈ T.glob → ∃ vs : List Value, cs = vs.map ofVal1 ∧ ∀ (j : Nat) (v : Value), vs[j]? = some v → w.cell? ⟨g, j, none⟩ = some v) : GOk (T.env P) (Ctx.start w) := by
  intro g
  show Rep _ _ (.view .sh ((lookN T.glob g).getD []))
  cases hl : lookN T.glob g with
  | none => exact start_view (vs := []) ⟨rfl, rfl⟩ (fun _ => rfl) rfl (fun j v hj => by simp at hj) (fun j v c hj => by simp at hj)
  | some cs =>
    obtain ⟨vs, rfl, hc⟩ := h g cs (lookN_mem hl)
    refine start_view (vs := vs) (bare_map vs) (fun _ => rfl) (by simp) (fun j v hj => by rw [Nat.zero_add]; exact hc j v hj) (fun j v c hj hcj => ?_)
    have hcj' : (vs.map ofVal1)[j]? = some c := hcj
    rw [List.getElem?_map, hj] at hcj'
    cases hcj'
    exact rep_ofVal1 _ v

/-! ### data that refer to nothing -/
mutual
def valsD {H : Type} : DataW H → List Value
  | .lit (.bool b) => [.bool b]
  | .lit (.int k n) => [.int k n]
  | .lit (.string s) => [.string ⟨⟨s⟩⟩]
  | .agg ds => valsDs ds
  | _ => []
def valsDs {H : Type} : List (DataW H) → List Value
  | [] => []
  | d :: ds => valsD d ++ valsDs ds
end

/-- the fields of a struct lie one behind the other -/
def packed (P : Program) : Nat → List Field → Bool
  | _, [] => true
  | o, f :: fs => Nat.beq f.offset o && packed P (o + P.cellsOf f.type) fs
def sumF (P : Program) : List Field → Nat
  | [] => 0
  | f :: fs => P.cellsOf f.type + sumF P fs

/-- such a type's data are flat, so deep -/
def flatT (P : Program) : Nat → TypeId → Bool
  | 0, _ => false
  | d + 1, t => match P.underlying t with
    | some .bool | some (.int _) | some .string => Nat.beq (P.cellsOf t) 1
    | some (.struct fs) => packed P 0 fs.toList && Nat.beq (P.cellsOf t) (sumF P fs.toList) && fs.toList.all fun f => flatT P d f.type
    | some (.array n e) => Nat.beq (P.cellsOf t) (n * P.cellsOf e) && flatT P d e
    | _ => false

section
variable {P : Program} {H : Type} {enc : TypeId × Value → H} {w : World} {base : Nat} {spare : Nat → Bool} {held : Bool}

theorem packed_split : ∀ (fs : List Field) (o : Nat) (cs : List Value) (xs : List (DataW H × List MemPlace)), packed P o fs = true → o + sumF P fs = cs.length → xs.length = fs.length →
      (∀ (i : Nat) (f : Field) (x : DataW H × List MemPlace), fs[i]? = some f → xs[i]? = some x → (cs.drop f.offset).take (P.cellsOf f.type) = valsD x.1) → cs.drop o = valsDs (xs.map (·.1))
  | [], o, cs, xs, _, hl, hx, _ => by
    have : xs = [] := List.length_eq_zero_iff.1 (by simpa using hx)
    subst this
    simp only [sumF] at hl
    exact List.drop_eq_nil_of_le (by omega)
  | f :: fs, o, cs, [], _, _, hx, _ => by simp at hx
  | f :: fs, o, cs, x :: xs, hp, hl, hx, hm => by
    simp only [packed, Bool.and_eq_true] at hp
    have ho := Nat.eq_of_beq_eq_true hp.1
    simp only [sumF] at hl
    have h3 := hm 0 f x rfl rfl
    have h4 := packed_split fs (o + P.cellsOf f.type) cs xs hp.2 (by omega) (by simpa using hx) (fun i g y hg hy => hm (i + 1) g y (by simpa using hg) (by simpa using hy))
    simp only [List.map_cons, valsDs]
    rw [← h3, ← h4, ho, ← List.drop_drop, List.take_append_drop]

theorem rows_split {sz : Nat} : ∀ (k i : Nat) (cs : List Value) (xs : List (DataW H × List MemPlace)), (i + k) * sz = cs.length → xs.length = k →
      (∀ (j : Nat) (x : DataW H × List MemPlace), xs[j]? = some x → (cs.drop ((i + j) * sz)).take sz = valsD x.1) → cs.drop (i * sz) = valsDs (xs.map (·.1))
  | 0, i, cs, xs, hl, hx, hm => by
    have : xs = [] := List.length_eq_zero_iff.1 hx
    subst this
    simp only [Nat.add_zero] at hl
    exact List.drop_eq_nil_of_le (by omega)
  | k + 1, i, cs, [], hl, hx, hm => by simp at hx
  | k + 1, i, cs, x :: xs, hl, hx, hm => by
    have h3 := hm 0 x rfl
    have h4 := rows_split k (i + 1) cs xs (by rw [← hl]; congr 1; omega) (by simpa using hx) (fun j y hy => by
      have := hm (j + 1) y (by simpa using hy)
      rwa [show i + (j + 1) = i + 1 + j by omega] at this)
    simp only [List.map_cons, valsDs]
    rw [Nat.add_zero] at h3
    rw [← h3, ← h4, Nat.succ_mul, ← List.drop_drop, List.take_append_drop]

theorem trod_flat : ∀ (d : Nat) (t : TypeId), flatT P d t = true → ∀ (fuel : Nat) (cs : List Value) (x : DataW H) (p : List MemPlace), DataW.trod enc P w base spare held fuel t cs = some (x, p) → cs = valsD x
  | 0, t, h => by simp [flatT] at h
  | d + 1, t, h => by
    intro fuel cs x p ht
    unfold flatT at h
    split at h
    · rename_i hu
      obtain ⟨b, rfl, hx⟩ := DataW.trod_bool hu ht
      cases hx; rfl
    · rename_i k hu
      obtain ⟨n, rfl, hx, _⟩ := DataW.trod_int hu ht
      cases hx; rfl
    · rename_i hu
      obtain ⟨s, rfl, hx, _⟩ := DataW.trod_string hu ht
      cases hx; rfl
    · rename_i fs hu
      simp only [Bool.and_eq_true, List.all_eq_true] at h
      obtain ⟨xs, n, rfl, hx, hl, hxl, hm⟩ := DataW.trod_struct hu ht
      cases hx
      have := packed_split (P := P) fs.toList 0 cs xs h.1.1 (by rw [hl, Nat.eq_of_beq_eq_true h.1.2]; omega) (by rw [hxl, Array.length_toList]) (fun i f y hf hy => by
        have h1 := hm i f (by simpa using hf)
        rw [hy] at h1
        exact trod_flat d f.type (h.2 f (List.mem_of_getElem? hf)) n _ y.1 y.2 h1)
      rw [List.drop_zero] at this
      exact this
    · rename_i n e hu
      simp only [Bool.and_eq_true] at h
      obtain ⟨xs, m, rfl, hx, hl, hxl, hm⟩ := DataW.trod_array hu ht
      cases hx
      have := rows_split (sz := P.cellsOf e) n 0 cs xs (by rw [hl, Nat.eq_of_beq_eq_true h.1]; simp) hxl (fun j y hy => by
        have hj : j < n := by rw [← hxl]; exact (List.getElem?_eq_some_iff.1 hy).1
        have h1 := hm j hj
        rw [hy] at h1
        rw [Nat.zero_add]
        exact trod_flat d e h.2 m _ y.1 y.2 h1)
      rw [Nat.zero_mul, List.drop_zero] at this
      exact this
    · cases h
end

/-- A listed variable, its data flat, at the start. -/
theorem laid_cells {P : Program} {w : World} {n : String} {d : DataW Unit} {g : Nat} {t : TypeId} (hg : P.globalNamed n = some g) (ht : (P.globals[g]?).map (·.type) = some t) (hf : flatT P 9 t = true) :
    ∀ (laid : List (String × DataW Unit)) (ps : List MemPlace), (n, d) ∈ laid → DataW.LaidVars P w laid ps → ∀ (j : Nat) (v : Value), (valsD d)[j]? = some v → w.cell? ⟨g, j, none⟩ = some v
  | [], _, hmem, _ => nomatch hmem
  | (n', d') :: r, ps, hmem, hl => by
    obtain ⟨g', t', cs, fuel, p, q, h1, h2, h3, h4, h5, _⟩ := hl
    rcases List.mem_cons.1 hmem with he | he
    · cases he
      obtain rfl := Option.some.inj (hg.symm.trans h1)
      obtain rfl := Option.some.inj (ht.symm.trans h2)
      have hc := trod_flat 9 t hf _ _ _ _ h4
      intro j v hj
      rw [← hc] at hj
      rw [World.var?_cell hg h3 j]
      simpa using hj
    · exact laid_cells hg ht hf r q he h5
end Go.Tv

/- Library functions by their contracts: searches. -/
namespace Go.Tv
open Go Go.RowKit

/-! ## searching -/
def preG {α : Type} (eq : α → α → Bool) : List α → List α → Bool
  | [], _ => true
  | _ :: _, [] => false
  | a :: s, b :: t => eq a b && preG eq s t
def idxG {α : Type} (eq : α → α → Bool) (sub : List α) : List α → Nat → Int
  | [], i => match sub with | [] => Int.ofNat i | _ :: _ => -1
  | b :: l, i => match preG eq sub (b :: l) with | true => Int.ofNat i | false => idxG eq sub l (i + 1)

theorem preG_eq : ∀ s t : List UInt8, preG (· == ·) s t = s.isPrefixOf t
  | [], _ => by simp [preG]
  | _ :: _, [] => rfl
  | a :: s, b :: t => by simp [preG, List.isPrefixOf, preG_eq s t]

theorem idxG_eq (sub : List UInt8) : ∀ (s : List UInt8) (i : Nat), idxG (· == ·) sub s i = if Lib.index s sub = -1 then -1 else Lib.index s sub + i
  | [], i => by
    cases sub with
    | nil => simp [idxG, Lib.index]
    | cons x r => simp [idxG, Lib.index]
  | b :: l, i => by
    unfold idxG Lib.index
    rw [preG_eq, idxG_eq sub l (i + 1)]
    have hge := Lib.index_ge l sub
    cases hp : sub.isPrefixOf (b :: l) with
    | true => simp
    | false =>
      simp only [Bool.false_eq_true, if_false, beq_iff_eq]
      by_cases h : Lib.index l sub = -1
      · simp [h]
      · rw [if_neg h, if_neg h, if_neg (by omega)]
        push_cast; omega

theorem idxG_index (s sub : List UInt8) : idxG (· == ·) sub s 0 = Lib.index s sub := by
  rw [idxG_eq]
  split
  · rename_i h; exact h.symm
  · simp

/-- a number that is a byte -/
def isB (n : Int) : Bool := decide (0 ≤ n ∧ n < 256)
def byteNs : List TV → Option (List Int)
  | [] => some []
  | .int .u8 n :: vs => match isB n, byteNs vs with
    | true, some l => some (n :: l)
    | _, _ => none
  | _ => none

theorem byteNs_spec : ∀ {es : List TV} {ns : List Int}, byteNs es = some ns → es = ns.map (TV.int .u8) ∧ ∀ n ∈ ns, 0 ≤ n ∧ n < 256
  | [], ns, h => by simp [byteNs] at h; subst h; exact ⟨rfl, fun _ h => nomatch h⟩
  | e :: es, ns, h => by
    unfold byteNs at h
    split at h
    · rename_i heq; cases heq
    · rename_i n vs heq
      cases heq
      split at h
      · rename_i l hb hl
        cases h
        obtain ⟨h1, h2⟩ := byteNs_spec hl
        refine ⟨by simp [h1], fun x hx => ?_⟩
        rcases List.mem_cons.1 hx with rfl | hx
        · unfold isB at hb; simpa using hb
        · exact h2 x hx
      · cases h
    · cases h

def eqI (a b : Int) : Bool := decide (a = b)
theorem byte_inj {a b : Int} (ha : 0 ≤ a ∧ a < 256) (hb : 0 ≤ b ∧ b < 256) : (UInt8.ofNat a.toNat == UInt8.ofNat b.toNat) = eqI a b := by
  unfold eqI
  rw [Bool.eq_iff_iff, beq_iff_eq, decide_eq_true_eq]
  constructor
  · intro h
    have := congrArg UInt8.toNat h
    rw [UInt8.toNat_ofNat', UInt8.toNat_ofNat'] at this
    have h1 : a.toNat % 2 ^ 8 = a.toNat := Nat.mod_eq_of_lt (by omega)
    have h2 : b.toNat % 2 ^ 8 = b.toNat := Nat.mod_eq_of_lt (by omega)
    rw [h1, h2] at this
    omega
  · rintro rfl; rfl
theorem preG_map : ∀ {s t : List Int}, (∀ n ∈ s, 0 ≤ n ∧ n < 256) → (∀ n ∈ t, 0 ≤ n ∧ n < 256) → preG (· == ·) (Lib.bytesOf s) (Lib.bytesOf t) = preG eqI s t
  | [], _, _, _ => rfl
  | _ :: _, [], _, _ => rfl
  | a :: s, b :: t, hs, ht => by
    simp only [Lib.bytesOf, List.map_cons, preG]
    rw [byte_inj (hs a List.mem_cons_self) (ht b List.mem_cons_self)]
    have := preG_map (s := s) (t := t) (fun n h => hs n (List.mem_cons_of_mem _ h)) (fun n h => ht n (List.mem_cons_of_mem _ h))
    simp only [Lib.bytesOf] at this
    rw [this]
theorem idxG_map {sub : List Int} (hsub : ∀ n ∈ sub, 0 ≤ n ∧ n < 256) : ∀ {s : List Int} (i : Nat), (∀ n ∈ s, 0 ≤ n ∧ n < 256) → idxG (· == ·) (Lib.bytesOf sub) (Lib.bytesOf s) i = idxG eqI sub s i
  | [], i, _ => by cases sub <;> rfl
  | b :: l, i, h => by
    have h1 := preG_map hsub h
    have h2 := idxG_map hsub (s := l) (i + 1) (fun n hn => h n (List.mem_cons_of_mem _ hn))
    simp only [Lib.bytesOf, List.map_cons] at h1 h2 ⊢
    simp only [idxG]
    rw [h1, h2]

/-- the bytes of a slice, now -/
def rdB (σ : St) (x : TV) : Option (List Int) :=
  match x with
  | .slice o es => ownK σ o (byteNs es)
  | .bsl r off len sz _ => tst (Nat.beq sz 1) (derefK σ (.ptr r off) fun cs => tst (Nat.ble len cs.length) (byteNs (cs.take len)) none) none
  | _ => none

section
variable {P : Program} {E : Env} {C D : Ctx}

theorem rdB_sound (hok : Ok P E C) {σ : St} (hc : C.ents = σ.ents) {v : Value} {x : TV} {ns : List Int} (hx : Rep C v x) (h : rdB σ x = some ns) :
    (∀ n ∈ ns, 0 ≤ n ∧ n < 256) ∧ ∃ p cap, v = .slice p ns.length cap ∧ ns.length ≤ cap ∧ (p = none → cap = 0) ∧
      (∀ ad, p = some ad → ∀ i, i < ns.length → C.w.cell? (ad.add i) = some (.int .u8 (ns.getD i 0))) := by
  have cells : ∀ {b off : Nat} {cs : List TV}, Reads C b off cs → cs = ns.map (TV.int .u8) → ∀ i, i < ns.length → C.w.cell? ((⟨b, off, none⟩ : Addr).add i) = some (.int .u8 (ns.getD i 0)) := by
    intro b off cs hr he i hi
    obtain ⟨u, h1, h2⟩ := hr i (.int .u8 (ns.getD i 0)) (by rw [he, List.getElem?_map, List.getElem?_eq_getElem hi]; simp [List.getD, hi])
    cases h2
    rw [addr_add]; exact h1
  unfold rdB at h
  split at h
  · rename_i o es
    obtain ⟨hcur, h1⟩ := ownK_some hc h
    obtain ⟨he, hb⟩ := byteNs_spec h1
    obtain ⟨p, cap, rfl, hcap⟩ := hx.slice_len
    have hl : es.length = ns.length := by rw [he]; simp
    refine ⟨hb, p, cap, by rw [hl], by omega, fun hp => ?_, fun ad had => ?_⟩
    · subst hp
      cases hx with
      | slice z f hl hcap he hs hc hrep => exact hs.none rfl
    · obtain ⟨b, off, spot⟩ := ad
      subst had
      have hsp : spot = none := by
        cases hx with
        | slice z f hl hcap he hs hc hrep => exact (hs.some _ rfl).1
      subst hsp
      exact cells (hx.slice_reads hcur (fun e he' => by
        rw [he] at he'
        obtain ⟨n, _, rfl⟩ := List.mem_map.1 he'
        rfl)) he
  · rename_i r off len sz ag
    obtain ⟨hsz, h1⟩ := tst_none h
    cases hx with
    | bsl hp hl hoo =>
      rename_i off2 cap
      obtain ⟨b, off', cs, heq, hr, h2⟩ := derefK_some hok hc (Rep.ptr hp) h1
      cases heq
      obtain ⟨hle, h3⟩ := tst_none h2
      have hle' := Nat.le_of_ble_eq_true hle
      obtain ⟨he, hb⟩ := byteNs_spec h3
      have hlen : ns.length = len := by
        have := congrArg List.length he
        simp at this; omega
      refine ⟨hb, some ⟨C.loc r, off2, none⟩, cap, by rw [hlen], by omega, (fun h => nomatch h), fun ad had => ?_⟩
      cases had
      intro i hi
      have h0 : len ≠ 0 := by omega
      rw [hoo h0]
      refine cells (cs := cs.take len) (fun j c hj => hr j c ?_) he i hi
      rw [List.getElem?_take] at hj
      split at hj
      · exact hj
      · cases hj
  · cases h

theorem spot_none {v : Value} {x : TV} (hx : Rep C v x) {ad : Addr} {n c : Nat} (hv : v = .slice (some ad) n c) {σ : St} {ns : List Int} (h : rdB σ x = some ns) : ad.spot = none := by
  unfold rdB at h
  split at h
  · cases hx with
    | slice z f hl hcap he hs hcc hrep => cases hv; exact (hs.some _ rfl).1
  · cases hx with
    | bsl hp hl hoo => cases hv; rfl
  · cases h

/-- A function that only reads has been called. -/
theorem ext_reads (hok : Ok P E C) {σ : St} (hc : C.ents = σ.ents) {f : FuncId} {vs : Array Value} {val : Value} {v : TV} (henter : ∀ w, (callFunc f vs).run P w = .ok (.enter f vs) w)
    (hcalls : Calls P f vs C.w fun e w' => e = .returned val ∧ ∃ q, w' = C.w.drewN q) (hv : ∀ D, Rep D val v) :
    Invoked P f vs C.w fun e w' => ∃ D val, e = .returned val ∧ Adv C D ∧ Ok P E D ∧ D.w = w' ∧ D.ents = σ.ents ∧ Tame σ σ ∧ Rep D val v := by
  refine .inr ⟨f, vs, C.w, henter _, hcalls.mono fun e w' => ?_⟩
  rintro ⟨rfl, q, rfl⟩
  exact ⟨C.drewN (C.w.drawn + q), val, rfl, (grew_drewN C _).adv hok, ok_drewN hok _, rfl, hc, Tame.refl σ, hv _⟩

theorem RepL.two {vs : Array Value} {a b : TV} (h : RepL C vs.toList [a, b]) : ∃ u v, vs = #[u, v] ∧ Rep C u a ∧ Rep C v b := by
  obtain ⟨u, us, h1, h2, h3⟩ := h.cons_inv
  obtain ⟨v, ws, h4, h5, h6⟩ := h3.cons_inv
  rw [h6.nil_inv] at h4
  rw [h4] at h1
  exact ⟨u, v, by rw [← Array.toArray_toList (xs := vs), h1], h2, h5⟩

/-! ### bytes.Index -/
def extBytesIndex : ExtFn := fun args σ =>
  match args with
  | [x, y] => match rdB σ x, rdB σ y with
    | some s, some t => tst (Nat.blt s.length 4294967281 && Nat.ble t.length 9223372036854775807) (some (.int .i64 (idxG eqI t s 0), σ)) none
    | _, _ => none
  | _ => none

structure BytesIndex (P : Program) (f g : Nat) : Prop where
  enter : ∀ vs w, (callFunc f vs).run P w = .ok (.enter f vs) w
  at_ : ∀ (a1 a2 : Addr) (n c1 k c2 : Nat) (xs ys : List Int) (m : Int) (w : World), xs.length = n → ys.length = k → (∀ x ∈ xs, 0 ≤ x ∧ x < 256) → (∀ y ∈ ys, 0 ≤ y ∧ y < 256) →
    (∀ i, i < n → w.cell? (a1.add i) = some (.int .u8 (xs.getD i 0))) → (∀ i, i < k → w.cell? (a2.add i) = some (.int .u8 (ys.getD i 0))) → n ≤ c1 → n < 4294967281 → k ≤ 9223372036854775807 → w.cell? ⟨g, 0, none⟩ = some (.int .i64 m) →
    Calls P f #[.slice (some a1) n c1, .slice (some a2) k c2] w fun e w' => e = .returned (.int .i64 (Lib.index (Lib.bytesOf xs) (Lib.bytesOf ys))) ∧ ∃ q, w' = w.drewN q
  none_ : ∀ (p q : Option Addr) (n c d : Nat) (w : World), Calls P f #[.slice p n c, .slice q 0 d] w fun e w' => e = .returned (.int .i64 0) ∧ w' = w
  nil_ : ∀ (p2 : Option Addr) (k c2 : Nat) (w : World), k ≤ 9223372036854775807 → (k = 1 → ∃ b2 o2 cv, p2 = some ⟨b2, o2, none⟩ ∧ w.cell? ⟨b2, o2, none⟩ = some (.int .u8 cv)) →
    Calls P f #[.slice none 0 0, .slice p2 k c2] w fun e w' => e = .returned (.int .i64 (if k = 0 then 0 else -1)) ∧ w' = w

/-- the int variable of the library's -/
def LaidInt (E : Env) (g : Nat) : Prop := ∃ m, E.glob g = [.int .i64 m]
theorem LaidInt.cell {g : Nat} (h : LaidInt E g) (hg : GOk E C) : ∃ m, C.w.cell? ⟨g, 0, none⟩ = some (.int .i64 m) := by
  obtain ⟨m, hm⟩ := h
  have := hg g
  rw [hm] at this
  generalize hv : Value.pointer (some ⟨g, 0, none⟩) = v at this
  cases this with
  | view f hh hz hc hr =>
    cases hv
    have h1 := hr 0 _ rfl
    have h2 := hc trivial 0 (by simp)
    generalize f 0 = u at h1 h2
    cases h1
    exact ⟨m, h2⟩

theorem bytesIndex_sound {f g : Nat} (hb : BytesIndex P f g) (hm : LaidInt E g) : ExtSound P E f extBytesIndex := by
  intro C σ args vs v σ' hok hg hc hvs h
  unfold extBytesIndex at h
  split at h
  · rename_i x y
    split at h
    · rename_i s t hs ht
      obtain ⟨hb1, h1⟩ := tst_none h
      cases h1
      simp only [Bool.and_eq_true] at hb1
      have hsl : s.length < 4294967281 := by simpa [Nat.blt_eq] using hb1.1
      have htl := Nat.le_of_ble_eq_true hb1.2
      obtain ⟨u1, u2, rfl, hx, hy⟩ := hvs.two
      obtain ⟨k1, p1, c1, rfl, hc1, hp1, hr1⟩ := rdB_sound hok hc hx hs
      obtain ⟨k2, p2, c2, rfl, hc2, hp2, hr2⟩ := rdB_sound hok hc hy ht
      have e : idxG eqI t s 0 = Lib.index (Lib.bytesOf s) (Lib.bytesOf t) := by rw [← idxG_map k2 0 k1, idxG_index]
      rw [e]
      refine ext_reads hok hc (val := .int .i64 (Lib.index (Lib.bytesOf s) (Lib.bytesOf t))) (fun w => hb.enter _ w) ?_ (fun D => .int _ _)
      have q0 : ∀ {z : Int}, (Calls P f #[.slice p1 s.length c1, .slice p2 t.length c2] C.w fun e w' => e = .returned (.int .i64 z) ∧ w' = C.w) → z = Lib.index (Lib.bytesOf s) (Lib.bytesOf t) →
          Calls P f #[.slice p1 s.length c1, .slice p2 t.length c2] C.w fun e w' => e = .returned (.int .i64 (Lib.index (Lib.bytesOf s) (Lib.bytesOf t))) ∧ ∃ q, w' = C.w.drewN q := by
        intro z hz he
        subst he
        exact hz.mono fun e w' ⟨a, b⟩ => ⟨a, 0, b⟩
      cases t with
      | nil =>
        refine q0 (hb.none_ p1 p2 s.length c1 c2 C.w) ?_
        cases s <;> simp [Lib.bytesOf, Lib.index]
      | cons y0 ys =>
        cases p2 with
        | none => have := hp2 rfl; simp at hc2; omega
        | some a2 =>
          cases p1 with
          | none =>
            have hc0 := hp1 rfl
            have hs0 : s = [] := List.length_eq_zero_iff.1 (by omega)
            subst hs0; subst hc0
            refine q0 (hb.nil_ (some a2) _ c2 C.w htl fun hk => ?_) ?_
            · obtain ⟨b, off, spot⟩ := a2
              have hcell := hr2 _ rfl 0 (by simp)
              have hsp : spot = none := spot_none hy rfl ht
              subst hsp
              exact ⟨b, off, _, rfl, by simpa [addr_add] using hcell⟩
            · simp [Lib.bytesOf, Lib.index]
          | some a1 =>
            obtain ⟨m, hmc⟩ := hm.cell hg
            exact hb.at_ a1 a2 _ c1 _ c2 s _ m C.w rfl rfl k1 k2 (hr1 _ rfl) (hr2 _ rfl) hc1 hsl htl hmc
    · cases h
  · cases h

/-! ### strings.Index -/
def extStringsIndex : ExtFn := fun args σ =>
  match args with
  | [.str s, .str t] => tst (Nat.blt s.length 4294967281) (some (.int .i64 (idxG (· == ·) t s 0), σ)) none
  | _ => none

structure StringsIndex (P : Program) (f g : Nat) : Prop where
  enter : ∀ vs w, (callFunc f vs).run P w = .ok (.enter f vs) w
  at_ : ∀ (s sub : ByteArray) (m : Int) (w : World), s.size < 4294967281 → w.cell? ⟨g, 0, none⟩ = some (.int .i64 m) →
    Calls P f #[.string s, .string sub] w fun e w' => e = .returned (.int .i64 (Lib.index s.data.toList sub.data.toList)) ∧ w' = w

theorem stringsIndex_sound {f g : Nat} (hb : StringsIndex P f g) (hm : LaidInt E g) : ExtSound P E f extStringsIndex := by
  intro C σ args vs v σ' hok hg hc hvs h
  unfold extStringsIndex at h
  split at h
  · rename_i s t
    obtain ⟨hb1, h1⟩ := tst_none h
    cases h1
    have hsl : s.length < 4294967281 := by simpa [Nat.blt_eq] using hb1
    obtain ⟨u1, u2, rfl, hx, hy⟩ := hvs.two
    cases hx; cases hy
    obtain ⟨m, hmc⟩ := hm.cell hg
    refine ext_reads hok hc (val := .int .i64 (Lib.index s t)) (fun w => hb.enter _ w) ((hb.at_ ⟨⟨s⟩⟩ ⟨⟨t⟩⟩ m C.w hsl hmc).mono fun e w' ⟨a, b⟩ => ⟨a, 0, b⟩) (fun D => ?_)
    rw [idxG_index]
    exact .int _ _
  · cases h

/-! ### bytes.IndexByte -/
def extBytesIndexByte : ExtFn := fun args σ =>
  match args with
  | [x, .int .u8 n] => match rdB σ x with
    | some s => tst (isB n) (some (.int .i64 (idxG eqI [n] s 0), σ)) none
    | none => none
  | _ => none

structure BytesIndexByte (P : Program) (f : Nat) : Prop where
  enter : ∀ vs w, (callFunc f vs).run P w = .ok (.enter f vs) w
  at_ : ∀ (b o n c : Nat) (xs : List Int) (cv : Int) (w : World), xs.length = n → (∀ i, i < n → w.cell? ⟨b, o + i, none⟩ = some (.int .u8 (xs.getD i 0))) →
    Calls P f #[.slice (some ⟨b, o, none⟩) n c, .int .u8 cv] w fun e w' => e = .returned (.int .i64 (Lib.indexByte (Lib.bytesOf xs) cv.toNat.toUInt8)) ∧ w' = w
  nil_ : ∀ (cv : Int) (w : World), Calls P f #[.slice none 0 0, .int .u8 cv] w fun e w' => e = .returned (.int .i64 (-1)) ∧ w' = w

theorem indexByte_eq (c : UInt8) : ∀ l : List UInt8, Lib.indexByte l c = Lib.index l [c]
  | [] => by simp [Lib.indexByte, Lib.index]
  | b :: l => by
    unfold Lib.indexByte Lib.index
    rw [indexByte_eq c l]
    have : ([c].isPrefixOf (b :: l)) = (b == c) := by
      simp only [List.isPrefixOf, Bool.and_true]
      rw [Bool.eq_iff_iff, beq_iff_eq, beq_iff_eq]
      exact ⟨fun h => h.symm, fun h => h.symm⟩
    rw [this]

theorem bytesIndexByte_sound {f : Nat} (hb : BytesIndexByte P f) : ExtSound P E f extBytesIndexByte := by
  intro C σ args vs v σ' hok hg hc hvs h
  unfold extBytesIndexByte at h
  split at h
  · rename_i x n
    split at h
    · rename_i s hs
      obtain ⟨hb1, h1⟩ := tst_none h
      cases h1
      have hn : 0 ≤ n ∧ n < 256 := by unfold isB at hb1; simpa using hb1
      obtain ⟨u1, u2, rfl, hx, hy⟩ := hvs.two
      cases hy
      obtain ⟨k1, p1, c1, hv1, hc1, hp1, hr1⟩ := rdB_sound hok hc hx hs
      have e : idxG eqI [n] s 0 = Lib.indexByte (Lib.bytesOf s) (UInt8.ofNat n.toNat) := by
        rw [← idxG_map (sub := [n]) (by simpa using hn) 0 k1, idxG_index, indexByte_eq]; rfl
      rw [e]
      cases p1 with
      | none =>
        have hc0 := hp1 rfl
        have hs0 : s = [] := List.length_eq_zero_iff.1 (by omega)
        subst hs0; subst hc0; subst hv1
        exact ext_reads hok hc (val := .int .i64 (-1)) (fun w => hb.enter _ w) ((hb.nil_ n C.w).mono fun e w' ⟨a, b⟩ => ⟨a, 0, b⟩) (fun D => .int _ _)
      | some a1 =>
        have hsp := spot_none hx hv1 hs
        obtain ⟨b, off, spot⟩ := a1
        simp only at hsp
        subst hsp; subst hv1
        refine ext_reads hok hc (val := .int .i64 (Lib.indexByte (Lib.bytesOf s) n.toNat.toUInt8)) (fun w => hb.enter _ w) ((hb.at_ b off _ c1 s n C.w rfl (fun i hi => ?_)).mono fun e w' ⟨a, b⟩ => ⟨a, 0, b⟩) (fun D => .int _ _)
        have := hr1 _ rfl i hi
        rwa [addr_add] at this
    · cases h
  · cases h

/-! ### slices.Clone of nothing -/
def extCloneNil : List TV → Option TV := fun args =>
  match args with
  | [.slice _ []] => some (.slice .sh [])
  | _ => none

structure CloneNil (P : Program) (f e sz : Nat) : Prop where
  enter : ∀ vs w, (callFunc f vs).run P w = .ok (.enter f vs) w
  nil_ : ∀ (n c : Nat) (w : World), Calls P f #[.slice none n c] w fun e w' => e = .returned (.slice none 0 0) ∧ w' = w
  zero_ : ∀ (a : Addr) (c : Nat) (w : World), Calls P f #[.slice (some a) 0 c] w fun e' w' => ∃ v', e' = .returned v' ∧ w'.ownsRow w.heap.size e sz v' 0 [] ∧ v' ≠ .slice none 0 0 ∧ Below w.heap.size w w'

/-- The world has grown; no entry has come. -/
theorem grew_world {w' : World} (h : Below C.w.heap.size C.w w') : Grew C { C with w := w' } :=
  ⟨h, rfl, fun _ _ => rfl, Nat.le_refl _, fun _ _ => rfl, fun _ _ => rfl, fun _ _ => rfl⟩

theorem cloneNil_sound {f e sz : Nat} (hb : CloneNil P f e sz) : ExtSound P E f (fun args σ => match extCloneNil args with | some v => some (v, σ) | none => none) := by
  intro C σ args vs v σ' hok hg hc hvs h
  unfold extCloneNil at h
  simp only at h
  split at h
  · rename_i v0 hq
    split at hq
    rotate_left
    · cases hq
    rename_i o
    cases hq
    cases h
    obtain ⟨u, us, h1, h2, h3⟩ := hvs.cons_inv
    rw [h3.nil_inv] at h1
    have hvv : vs = #[u] := by rw [← Array.toArray_toList (xs := vs), h1]
    subst hvv
    obtain ⟨p, cap, rfl, hcap⟩ := h2.slice_len
    have none_ : ∀ D : Ctx, Rep D (.slice none 0 0) (.slice .sh []) := fun D =>
      .slice 0 (fun _ _ => Go.undef) rfl (Nat.le_refl _) (fun _ h => nomatch h) ⟨fun _ => rfl, (fun _ h => nomatch h), (fun h => nomatch h), (fun _ _ h => nomatch h)⟩ (fun _ _ _ h => nomatch h) (fun i j e c h => by simp at h)
    cases p with
    | none =>
      refine .inr ⟨f, _, C.w, hb.enter _ _, (hb.nil_ _ cap C.w).mono fun e w' => ?_⟩
      rintro ⟨rfl, rfl⟩
      exact ⟨C, _, rfl, Adv.refl C, hok, rfl, hc, Tame.refl σ, none_ C⟩
    | some a =>
      refine .inr ⟨f, _, C.w, hb.enter _ _, (hb.zero_ a cap C.w).mono fun e w' => ?_⟩
      rintro ⟨v', rfl, hown, hne, hbel⟩
      have hgr := grew_world hbel
      have hok' : Ok P E { C with w := w' } := hgr.ok hok (fun b hb => hok.fresh b (Nat.le_trans hbel.size hb))
        (fun r e he hr => by have : r < C.ents.length := (List.getElem?_eq_some_iff.1 he).1; omega)
        (fun r s e f he hf hr hs => by have : r < C.ents.length := (List.getElem?_eq_some_iff.1 he).1; omega)
      refine ⟨_, v', rfl, hgr.adv hok, hok', rfl, hc, Tame.refl σ, ?_⟩
      rcases hown.2 with ⟨hv, _⟩ | ⟨g, cap', cur, hv, _⟩
      · rw [hv]; exact none_ _
      · rw [hv]
        refine .slice 0 (fun _ _ => Go.undef) rfl (Nat.zero_le _) (fun _ h => nomatch h) ⟨(fun h => nomatch h), fun ad had => ?_, (fun h => nomatch h), (fun _ _ h => nomatch h)⟩ (fun ad i j _ _ hi => by omega) (fun i j e c h => by simp at h)
        cases had
        exact ⟨rfl, fun h => absurd rfl h⟩
  · cases h
end
end Go.Tv

/- The evaluator once more, laid out so that the kernel copies little: the same function. -/
namespace Go.Tv
open Go

abbrev KA := TV → St → Option Ans

noncomputable def getF (fr : Tr TV) (m : Nat) : TV := Tr.rec (motive := fun _ => TV) .undef (fun n v _ ih => Bool.rec (motive := fun _ => TV) ih v (Nat.beq n m)) fr
theorem getF_eq (fr : Tr TV) (m : Nat) : getF fr m = (fr.get m).getD .undef := by
  induction fr with
  | nil => rfl
  | cons n v t ih =>
    show Bool.rec (motive := fun _ => TV) (getF t m) v (Nat.beq n m) = _
    cases h : Nat.beq n m with
    | true => simp [Tr.get, h]
    | false => simp [Tr.get, h, ih]

noncomputable def opdF (E : Env) (fr : Tr TV) (o : Operand) : TV :=
  Operand.rec (motive := fun _ => TV) (fun t => getF fr t) (fun v => ofVal v) (fun g => .view .sh (E.glob g)) (fun f => .func (.func f) [] []) o
theorem opdF_eq (E : Env) (fr : Tr TV) (o : Operand) : opdF E fr o = opd E fr o := by
  cases o with
  | tmp t => exact getF_eq fr t
  | _ => rfl
noncomputable def opdsF (E : Env) (fr : Tr TV) (os : List Operand) : List TV := List.rec (motive := fun _ => List TV) [] (fun o _ ih => opdF E fr o :: ih) os
theorem opdsF_eq (E : Env) (fr : Tr TV) : ∀ os : List Operand, opdsF E fr os = opds E fr os
  | [] => rfl
  | o :: os => by
    show opdF E fr o :: opdsF E fr os = _
    rw [opdF_eq, opdsF_eq E fr os]; rfl
noncomputable def putF (fr : Tr TV) (dst : Option Tmp) (v : TV) : Tr TV := Option.rec (motive := fun _ => Tr TV) fr (fun d => .cons d v fr) dst
theorem putF_eq (fr : Tr TV) (dst : Option Tmp) (v : TV) : putF fr dst v = putT fr dst v := by cases dst <;> rfl
noncomputable def yieldF (ops : Array Oper) (fr : Tr TV) (j : Nat) : TV :=
  Option.rec (motive := fun _ => TV) .undef (fun o => Option.rec (motive := fun _ => TV) .undef (fun d => getF fr d) o.dst) ops[j]?
theorem yieldF_eq (ops : Array Oper) (fr : Tr TV) (j : Nat) : yieldF ops fr j = yieldT ops fr j := by
  unfold yieldF yieldT
  cases ops[j]? with
  | none => rfl
  | some o =>
    simp only
    cases o.dst with
    | none => rfl
    | some d => exact getF_eq fr d

/-- what a guard's value says -/
def gwF : TV → Bool → Option Ans → Option Ans → Option Ans
  | .bool b => fun want yes no => match want with | true => tst b yes no | false => tst b no yes
  | .tuple [] => fun _ _ no => no
  | _ => fun _ _ _ => none
noncomputable def wantF (ops : Array Oper) (o : Oper) (fr : Tr TV) (yes no : Option Ans) : Option Ans :=
  Option.rec (motive := fun _ => Option Ans) yes (fun g => gwF (yieldF ops fr g.1) g.2 yes no) o.guard
theorem wantF_eq (ops : Array Oper) (o : Oper) (fr : Tr TV) (yes no : Option Ans) : wantF ops o fr yes no = wantK ops o fr yes no := by
  unfold wantF wantK
  cases o.guard with
  | none => rfl
  | some g =>
    obtain ⟨j, w⟩ := g
    show gwF (yieldF ops fr j) w yes no = _
    rw [yieldF_eq]
    simp only
    cases yieldT ops fr j with
    | tuple l => cases l <;> rfl
    | bool b => cases b <;> cases w <;> rfl
    | _ => rfl

noncomputable def seekF (v : TV) (K : TV → Option Ans) : Option Ans :=
  TV.casesOn (motive_1 := fun _ => Option Ans) v (K .undef) (fun b => K (.bool b)) (fun k n => K (.int k n)) (fun s => K (.str s)) (K .nilp) (fun r off => K (.ptr r off)) (fun o cs => K (.view o cs)) (fun o es => K (.slice o es))
    (fun r off len sz ag => K (.bsl r off len sz ag)) (K .nilm) (fun r => K (.map r)) (fun fn a b => K (.func fn a b)) (K .nilf) (fun t v => K (.iface t v)) (K .nili) (fun cs => K (.agg cs)) (fun vs => K (.tuple vs))
theorem seekF_eq (v : TV) (K : TV → Option Ans) : seekF v K = seeK v K := by cases v <;> rfl

def intF : BinOp → IntKind → Int → Int → (TV → Option Ans) → Option Ans
  | .add => fun k x y K => K (.int k (k.wrap (x + y)))
  | .sub => fun k x y K => K (.int k (k.wrap (x - y)))
  | .mul => fun k x y K => K (.int k (k.wrap (x * y)))
  | .eql => fun _ x y K => K (.bool (decide (x = y)))
  | .neq => fun _ x y K => K (.bool (!decide (x = y)))
  | .lss => fun _ x y K => K (.bool (decide (x < y)))
  | .leq => fun _ x y K => K (.bool (decide (x ≤ y)))
  | .gtr => fun _ x y K => K (.bool (decide (y < x)))
  | .geq => fun _ x y K => K (.bool (decide (y ≤ x)))
  | op => fun k x y K => intK op k x y K
theorem intF_eq (op : BinOp) (k : IntKind) (x y : Int) (K : TV → Option Ans) : intF op k x y K = intK op k x y K := by cases op <;> rfl

def binIF : BinOp → IntKind → Int → IntKind → Int → (TV → Option Ans) → Option Ans
  | .shl => fun k a _ b K => tst (decide (b < 0)) none (K (.int k (k.wrap (a * 2 ^ (min b.toNat k.bits)))))
  | .shr => fun k a _ b K => tst (decide (b < 0)) none (K (.int k (a.fdiv (2 ^ (min b.toNat k.bits)))))
  | op => fun k a j b K => match decide (k = j) with | true => intF op k a b K | false => none

def binRF : TV → Env → BinOp → TypeId → TV → (TV → Option Ans) → Option Ans
  | .int k a => fun E op t y K => match y with | .int j b => binIF op k a j b K | y => binK E op t (.int k a) y K
  | .str a => fun E op t y K => match y with | .str b => strK op a b K | y => binK E op t (.str a) y K
  | x => fun E op t y K => binK E op t x y K
theorem binRF_eq (x : TV) (E : Env) (op : BinOp) (t : TypeId) (y : TV) (K : TV → Option Ans) : binRF x E op t y K = binK E op t x y K := by
  cases x <;> first
    | rfl
    | skip
  · cases y <;> first | rfl | skip
    rename_i k a j b
    show binIF op k a j b K = _
    cases op <;> first
      | rfl
      | (simp only [binIF, binK]; cases decide (k = j) <;> simp only [intF_eq])
  · cases y <;> rfl

/-- One operation. -/
noncomputable def opF : Op → Env → Rec → Bool → Bool → Oper → Tr TV → St → KA → KA → Option Ans
  | .move x => fun E _ _ _ _ fr σ K _ => seekF (opdF E fr x) fun v => K v σ
  | .assign x => fun E _ _ _ _ fr σ K _ => seekF (opdF E fr x) fun v => K v σ
  | .load t a => fun E _ _ _ _ fr σ K _ => loadK E σ t (opdF E fr a) fun v => K v σ
  | .store t a x => fun E _ _ _ _ fr σ K _ => storeK E σ t (opdF E fr a) (opdF E fr x) fun σ => K .undef σ
  | .binOp op t x y _ => fun E _ _ _ _ fr σ K _ => binRF (opdF E fr x) E op t (opdF E fr y) fun v => K v σ
  | .unOp op _ x => fun E _ _ _ _ fr σ K _ => unK op (opdF E fr x) fun v => K v σ
  | .convert s t x => fun E _ _ _ _ fr σ K _ => convK E s t σ (opdF E fr x) fun v => K v σ
  | .slice t x lo hi mx => fun E _ _ _ _ fr σ K _ => sliceK E σ t (opdF E fr x) (optOpd E fr lo) (optOpd E fr hi) (optOpd E fr mx) K
  | .fieldAddr t x i => fun E _ _ _ _ fr σ K _ => fieldAddrK E t (opdF E fr x) i fun v => K v σ
  | .field t x i => fun E _ _ _ _ fr σ K _ => fieldK E t (opdF E fr x) i fun v => K v σ
  | .indexAddr t x i => fun E _ _ _ _ fr σ K _ => indexAddrK E σ t (opdF E fr x) (opdF E fr i) fun v => K v σ
  | .index t x i => fun E _ _ _ _ fr σ K _ => indexK E t (opdF E fr x) (opdF E fr i) fun v => K v σ
  | .extract x i => fun E _ _ _ _ fr σ K _ => match opdF E fr x with
    | .tuple vs => atK vs i fun v => K v σ
    | _ => none
  | .call ⟨callee, args, ats⟩ => fun E rec _ _ _ fr σ K KP =>
    match callee with
    | .value f => callK E rec (opdF E fr f) (opdsF E fr args.toList) σ K KP
    | .builtin b =>
      match b, opdsF E fr args.toList, ats.toList with
      | .len, [x], [t] => lenK E σ t x fun v => K v σ
      | .append, [s, x], [t, t2] => appendK E σ t t2 s x K
      | .copy, [a, b], t :: _ => copyK E σ t a b K
      | .max, [x, y], _ => maxK true x y fun v => K v σ
      | .min, [x, y], _ => maxK false x y fun v => K v σ
      | _, _, _ => none
    | _ => none
  | _ => fun E rec rd d o fr σ K KP => evalOp E rec rd d o fr σ K KP

theorem opF_eq (o : Oper) (E : Env) (rec : Rec) (rd d : Bool) (fr : Tr TV) (σ : St) (K KP : KA) : opF o.op E rec rd d o fr σ K KP = evalOp E rec rd d o fr σ K KP := by
  cases ho : o.op <;> simp only [opF] <;> (try unfold evalOp) <;> simp only [ho, seekF_eq, binRF_eq, opdF_eq, opdsF_eq]
  all_goals (first | rfl | skip)

noncomputable def opsF : List Oper → Env → Rec → Bool → Array Oper → Tr TV → St → (Tr TV → St → Option Ans) → (TV → Tr TV → St → Option Ans) → Option Ans
  | [] => fun _ _ _ _ fr σ K _ => K fr σ
  | o :: os => fun E rec rd ops fr σ K KP =>
    wantF ops o fr
      (opF o.op E rec rd false o fr σ (fun v σ => opsF os E rec rd ops (putF fr o.dst v) σ K KP) (fun v σ => KP v fr σ))
      (opsF os E rec rd ops (putF fr o.dst (.tuple [])) σ K KP)
theorem opsF_eq : ∀ (os : List Oper) (E : Env) (rec : Rec) (rd : Bool) (ops : Array Oper) (fr : Tr TV) (σ : St) (K : Tr TV → St → Option Ans) (KP : TV → Tr TV → St → Option Ans), opsF os E rec rd ops fr σ K KP = evalOps E rec rd ops os fr σ K KP
  | [], _, _, _, _, _, _, _, _ => rfl
  | o :: os, E, rec, rd, ops, fr, σ, K, KP => by
    unfold opsF evalOps
    simp only [opF_eq, opsF_eq os, wantF_eq, putF_eq]

noncomputable def drawF : List Oper → Env → Rec → Bool → Array Oper → List Nat → Nat → Tr TV → St → List (Nat × Oper × Tr TV × TV) → List (Nat × St) → (Tr TV → St → Option Ans) → Option Ans
  | [] => fun _ _ _ _ _ _ fr σ _ _ K => K fr σ
  | o :: os => fun E rec rd ops ms i fr σ ls ws K =>
    wantF ops o fr
      (givenK (opF o.op E rec rd true o fr σ (fun v σ => some ⟨.ret, [v], σ⟩) (fun _ _ => none)) fun v σ' =>
        match kdOf E o with
        | .q => tst (drawFlat E o fr) (drawF os E rec rd ops ms (i + 1) (putF fr o.dst v) σ ls ws K) none
        | .l => tst (chkW E rec rd (ms.getD i 0) o fr v ws) (drawF os E rec rd ops ms (i + 1) (putF fr o.dst v) σ ((i, o, fr, v) :: ls) ws K) none
        | .w => tst (chkL E rec rd (ms.getD i 0) σ' ls) (drawF os E rec rd ops ms (i + 1) (putF fr o.dst v) σ' ls ((i, σ) :: ws) K) none)
      (drawF os E rec rd ops ms (i + 1) (putF fr o.dst (.tuple [])) σ ls ws K)
theorem drawF_eq : ∀ (os : List Oper) (E : Env) (rec : Rec) (rd : Bool) (ops : Array Oper) (ms : List Nat) (i : Nat) (fr : Tr TV) (σ : St) (ls : List (Nat × Oper × Tr TV × TV)) (ws : List (Nat × St)) (K : Tr TV → St → Option Ans),
    drawF os E rec rd ops ms i fr σ ls ws K = evalDraw E rec rd ops ms i os fr σ ls ws K
  | [], _, _, _, _, _, _, _, _, _, _, _ => rfl
  | o :: os, E, rec, rd, ops, ms, i, fr, σ, ls, ws, K => by
    unfold drawF evalDraw opRun
    simp only [opF_eq, drawF_eq os, wantF_eq, putF_eq]
    rfl

def condF : TV → Option Ans → Option Ans → Option Ans
  | .bool t => fun a b => tst t a b
  | _ => fun _ _ => none

noncomputable def codeF : Code → Env → Rec → Bool → FuncId → Tr TV → St → (TE → Tr TV → St → Option Ans) → Option Ans
  | .skip => fun _ _ _ _ fr σ K => K .normal fr σ
  | .label _ => fun _ _ _ _ fr σ K => K .normal fr σ
  | .region id ops false => fun E rec rd _ fr σ K => opsF ops.toList E rec rd ops fr σ (fun fr σ => K .normal fr σ) (fun v fr σ => K (.pan v) fr σ)
  | .region id ops true => fun E rec rd f fr σ K => match E.bad f id with
      | true => none
      | false => drawF ops.toList E rec rd ops (masks ops.toList []) 0 fr σ [] [] (fun fr σ => K .normal fr σ)
  | .seq a b => fun E rec rd f fr σ K => codeF a E rec rd f fr σ fun e fr σ => match e with
    | .normal => codeF b E rec rd f fr σ K
    | e => K e fr σ
  | .cond c a b => fun E rec rd f fr σ K => condF (opdF E fr c) (codeF a E rec rd f fr σ K) (codeF b E rec rd f fr σ K)
  | .block id b => fun E rec rd f fr σ K => codeF b E rec rd f fr σ fun e fr σ => match e with
    | .exit i => match Nat.beq i id with | true => K .normal fr σ | false => K (.exit i) fr σ
    | e => K e fr σ
  | .scope b => fun E rec rd f fr σ K => codeF b E rec rd f fr σ K
  | .exit id => fun _ _ _ _ fr σ K => K (.exit id) fr σ
  | .ret => fun _ _ _ _ fr σ K => K .ret fr σ
  | c => fun E rec rd f fr σ K => evalCode E rec rd f c fr σ K
theorem codeF_eq : ∀ (c : Code) (E : Env) (rec : Rec) (rd : Bool) (f : FuncId) (fr : Tr TV) (σ : St) (K : TE → Tr TV → St → Option Ans), codeF c E rec rd f fr σ K = evalCode E rec rd f c fr σ K := by
  intro c
  induction c with
  | region id ops draw =>
    intro E rec rd f fr σ K
    cases draw with
    | false => unfold codeF evalCode; simp only [opsF_eq]
    | true => unfold codeF evalCode; simp only [drawF_eq]; rfl
  | seq a b iha ihb => intro E rec rd f fr σ K; unfold codeF evalCode; simp only [iha, ihb]; rfl
  | cond x a b iha ihb =>
    intro E rec rd f fr σ K
    unfold codeF evalCode
    simp only [iha, ihb, opdF_eq]
    cases opd E fr x <;> rfl
  | block id b ih => intro E rec rd f fr σ K; unfold codeF evalCode; simp only [ih]; rfl
  | scope b ih => intro E rec rd f fr σ K; unfold codeF evalCode; simp only [ih]
  | _ => intro E rec rd f fr σ K; rfl

noncomputable def stepF (E : Env) (rec : Rec) : Rec
  | .call f args σ =>
    match E.code f with
    | some fn =>
      match fn.body with
      | some c =>
        codeF c E rec false f (argSlots 0 args .nil) σ fun e fr σ =>
          match e with
          | .ret | .normal => finK E rec σ fun σ => resultsK E fr σ fn.results.toList fun vs => freezeK (tupleOf vs) σ fun v σ => some ⟨.ret, [v], σ⟩
          | .pan v => match σ.defs with | [] => some ⟨.pan v, [], σ⟩ | _ => none
          | _ => none
      | none => none
    | none => none
  | .loop rd f id vs σ =>
    match E.code f, E.live f id with
    | some fn, some (ins, outs) =>
      match fn.body with
      | some c =>
        match findLoop id c with
        | some b => codeF b E rec rd f (ofSlots ins vs .nil) σ fun e fr σ =>
          match e with
          | .normal => rec (.loop rd f id (gets fr ins) σ)
          | e => some ⟨e, gets fr outs, σ⟩
        | none => none
      | none => none
    | _, _ => none
  | q => stepR E rec q
theorem stepF_eq (E : Env) (rec : Rec) : stepF E rec = stepR E rec := by
  funext q
  cases q with
  | call f args σ => unfold stepF stepR; simp only [codeF_eq]; rfl
  | loop rd f id vs σ => unfold stepF stepR; simp only [codeF_eq]; rfl
  | _ => rfl

noncomputable def runF (E : Env) : Nat → Rec
  | 0 => fun _ => none
  | k + 1 => stepF E (runF E k)
theorem runF_eq (E : Env) : ∀ k, runF E k = run E k
  | 0 => rfl
  | k + 1 => by unfold runF run; rw [stepF_eq, runF_eq E k]
end Go.Tv

/- What a function comes to, off a table. -/
namespace Go.Tv
open Go

def closM (tbl : List (List FuncId)) : (fuel : Nat) → (mask : Nat) → (todo acc : List FuncId) → List FuncId
  | 0, _, _, acc => acc.reverse
  | _, _, [], acc => acc.reverse
  | n + 1, mask, f :: todo, acc =>
    match mask.testBit f with
    | true => closM tbl n mask todo acc
    | false => closM tbl n (mask ||| (1 <<< f)) (tbl.getD f [] ++ todo) (f :: acc)

theorem closM_eq {P : Program} {tbl : List (List FuncId)} (h : P.funcs.toList.map P.leadsTo = tbl) : ∀ (n mask : Nat) (todo acc : List FuncId), (∀ x, mask.testBit x = acc.contains x) →
    P.closureVia n todo acc = closM tbl n mask todo acc
  | 0, mask, todo, acc, _ => by unfold Program.closureVia closM; rfl
  | n + 1, mask, [], acc, _ => by unfold Program.closureVia closM; rfl
  | n + 1, mask, f :: todo, acc, hm => by
    have ht : (P.funcs[f]?).elim [] P.leadsTo = tbl.getD f [] := by
      subst h
      rw [List.getD_eq_getElem?_getD, List.getElem?_map, Array.getElem?_toList]
      cases P.funcs[f]? <;> rfl
    unfold Program.closureVia closM
    rw [← hm f, ht]
    cases hb : mask.testBit f with
    | true => rw [if_pos rfl]; exact closM_eq h n mask todo acc hm
    | false =>
      have := closM_eq h n (mask ||| (1 <<< f)) (tbl.getD f [] ++ todo) (f :: acc) (fun x => by
        rw [Nat.testBit_or, hm x, List.contains_cons, Bool.or_comm, Nat.one_shiftLeft, Nat.testBit_two_pow]
        congr 1
        rw [Bool.eq_iff_iff, decide_eq_true_eq, beq_iff_eq]
        exact ⟨fun h => h.symm, fun h => h.symm⟩)
      rw [if_neg Bool.false_ne_true]; exact this

theorem closure_eq {P : Program} {tbl : List (List FuncId)} (h : P.funcs.toList.map P.leadsTo = tbl) {f : FuncId} {L : List FuncId} (hL : closM tbl (1 + (tbl.map fun l => l.length + 1).sum) 0 [f] [] = L) : P.closure f = L := by
  unfold Program.closure
  have e : (P.funcs.toList.map fun g => (P.leadsTo g).length + 1) = tbl.map fun l => l.length + 1 := by
    rw [← h, List.map_map]; rfl
  rw [e, closM_eq h _ 0 [f] [] (by simp), hL]

theorem recurses_of {P : Program} {f : FuncId} (h : P.unfollowed f = true) : P.recurses f = true := by
  unfold Program.recurses
  rw [h]; rfl

theorem joinedFacts_of {P : Program} {f : FuncId} {fn : Func} {s : ChangeSpec} {c : OpenClaim} (h1 : c.wf (OpenSpec.ofChange s) = true) (h2 : laidOutB P = true) (h3 : mapsRowed P = true)
    (h4 : fn.params.all (P.readableRec ·) = true) (h5 : namedTie P c.named s.vars = true) (h6 : (c.stops == []) = true) (h7 : (P.stops == []) = true) (h8 : (c.knobs == []) = true) (h9 : (P.stopKnobs == []) = true)
    (h10 : P.inPlace f = c.inPlace) (h11 : P.unfollowed f = c.unfollowed) (h12 : P.recurses f = c.recurses) (h13 : P.varsNamed f = c.named)
    (h14 : (c.maps == (fn.params.toList ++ s.plain.varTypes P).any (P.mapsRec ·)) = true) (h15 : (c.ifaces == (fn.params.toList ++ s.plain.varTypes P).any (P.ifacesRec ·)) = true) (h16 : (c.mapsOut == P.mapsAmong fn.resultTypes.toList) = true)
    (h17 : (c.loops == (fn.params.toList ++ s.plain.varTypes P).any (P.loopsFrom ·)) = true) (h18 : (c.wideKeys == (fn.params.toList ++ s.plain.varTypes P ++ fn.resultTypes.toList).any (P.wideKeysFrom ·)) = true)
    (h19 : s.vars.all (P.varReadable ·) = true) (h20 : fn.resultTypes.all (fun t => P.readableRec t && decide (t < P.types.size)) = true) (h21 : (c.ifacesOut == fn.resultTypes.toList.any (P.ifacesRec ·)) = true) (h22 : (c.loopsOut == fn.resultTypes.toList.any (P.loopsFrom ·)) = true)
    (h23 : (c.plainKeys == P.plainKeys) = true) (h24 : c.shortTexts.isNone = true) (h25 : P.stopsHeard = true) (h26 : P.mayEnter = true) (h27 : (c.lifted == P.liftsFinal) = true) (h28 : (P.make == some c.make) = true)
    (h29 : (c.kinds == (if c.domain.isEmpty then [] else fn.params.toList.map fun t => match P.underlying t with | some (.int k) => some k | _ => none)) = true) (h30 : (c.pinned == c.pinnedBy) = true)
    (h31 : (c.veiled == (fn.params.toList ++ s.plain.varTypes P ++ fn.resultTypes.toList).any (P.veiledRec ·)) = true) (h32 : c.veiledFits P fn.params.toList (fn.params.toList ++ s.plain.varTypes P ++ fn.resultTypes.toList) = true) : joinedFacts P f fn s c = true := by
  have e10 : (c.inPlace == P.inPlace f) = true := by rw [h10]; simp
  have e11 : (c.unfollowed == P.unfollowed f) = true := by rw [h11]; simp
  have e12 : (c.recurses == P.recurses f) = true := by rw [h12]; simp
  have e13 : (c.named == P.varsNamed f) = true := by rw [h13]; simp
  simp only [joinedFacts, Bool.and_eq_true]
  and_intros
  all_goals assumption
end Go.Tv
