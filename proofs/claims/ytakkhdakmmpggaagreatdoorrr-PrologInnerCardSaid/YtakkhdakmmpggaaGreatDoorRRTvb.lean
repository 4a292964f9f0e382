/- The steps of the reckoning are the program's; part two: a tool of this claim's proof, no statement of the program. -/
import Derived.Test.YtakkhdakmmpggaaGreatDoorRRTva
import Derived.MapKept
import Derived.RangeFuncRecord

/- Appending: the token's block is filled, or moves. -/
namespace Go.Tv
open Go Go.RowKit

section
variable {P : Program} {E : Env} {C D : Ctx}

def Ctx.fill (C : Ctx) (id ver sz : Nat) (pin : Bool) (row : Array Value) (e : Nat) : Ctx :=
  { C with w := C.w.setRow (C.loc id) row, ents := C.ents.set id (.tok (ver + 1) pin sz), fe := upd C.fe id e, fz := upd C.fz (C.loc id) (if pin then e else 0) }

theorem fill_ok (hok : Ok P E C) {id ver sz e : Nat} {pin : Bool} (ht : C.tok id ver pin sz) {arr arr' : Array Value} {ty : TypeId} {fr : Nat × Nat} (hh : C.w.heap[C.loc id]? = some (.cells arr ty fr))
    (hs : arr'.size = arr.size) (hb : ∀ k, k < C.fe id → arr'[k]? = arr[k]?) (he : C.fe id ≤ e) : Adv C (C.fill id ver sz pin arr' e) ∧ Ok P E (C.fill id ver sz pin arr' e) := by
  have hlt := hok.lt id _ ht trivial
  obtain ⟨⟨arr0, ty0, lo, hi, h1, h2⟩, h3, h4, h5⟩ := hok.obj id _ ht
  rw [hh] at h1; cases h1
  have hheap : (C.fill id ver sz pin arr' e).w.heap[C.loc id]? = some (.cells arr' ty (lo, hi)) := setRow_heap C.w (C.loc id) arr arr' ty (lo, hi) hh
  have hr : Retok P E C (C.fill id ver sz pin arr' e) id ver pin sz (ver + 1) pin sz :=
    { was := ht, ents := rfl, mono := Nat.le_succ _, base := rfl, os := rfl, tape := rfl, output := rfl, size := Nat.le_of_eq (setRow_size _ _ _).symm, loc := fun _ _ => rfl
      fe := fun r hr => upd_ne _ _ hr
      heap := fun b _ hb => setRow_other C.w _ b _ hb
      fz := fun b _ hb => upd_ne _ _ hb
      cells := fun off v hoff hv => by
        rw [cell_of_row C.w _ off arr ty (lo, hi) hh] at hv
        rw [cell_of_row _ _ off arr' ty (lo, hi) hheap, hb off (by omega), hv]
      fzold := by
        show _ ≤ upd C.fz _ _ _
        rw [upd_same]
        cases pin with
        | true => simp only [if_true]; omega
        | false => rw [h3 rfl]; exact Nat.zero_le _
      room := fun n => by
        rintro ⟨a, t, f, h1, h2⟩
        rw [hh] at h1; cases h1
        exact ⟨arr', ty, (lo, hi), hheap, by omega⟩
      same := fun h => absurd h (by omega)
      lt := ⟨hlt.1, by show _ < (C.w.setRow _ _).heap.size; rw [setRow_size]; exact hlt.2⟩
      apart := fun s e' hs he ha => fun hl => hs (hok.inj s id e' _ he ht ha trivial hl)
      pinned := fun h => by
        show upd C.fe id e id ≤ upd C.fz (C.loc id) _ (C.loc id)
        rw [upd_same, upd_same, h]; exact Nat.le_refl _
      fresh := fun b hb => by
        have hb' : C.w.heap.size ≤ b := by
          have : (C.w.setRow (C.loc id) arr').heap.size ≤ b := hb
          rwa [setRow_size] at this
        show upd C.fz _ _ b = 0
        rw [upd_ne _ _ (by omega)]
        exact hok.fresh b hb' }
  refine ⟨hr.adv hok, hr.ok hok ⟨⟨arr', ty, lo, hi, hheap, by rw [hs]; exact h2⟩, fun hp => ?_, ?_, fun hp => ?_⟩⟩
  · show upd C.fz _ _ (C.loc id) = 0
    rw [upd_same, hp]; rfl
  · show upd C.fz _ _ (C.loc id) ≤ upd C.fe id e id
    rw [upd_same, upd_same]
    cases pin <;> simp
  · show upd C.fe id e id ≤ upd C.fz (C.loc id) _ (C.loc id)
    rw [upd_same, upd_same, hp]; exact Nat.le_refl _

def Ctx.regrow (C : Ctx) (id ver sz : Nat) (pin : Bool) (row : Array Value) (ty : TypeId) (e : Nat) : Ctx :=
  { C with w := C.w.drew.alloc (.cells row ty), ents := C.ents.set id (.tok (ver + 1) pin sz), loc := upd C.loc id C.w.heap.size, fe := upd C.fe id e, fz := upd C.fz C.w.heap.size (if pin then e else 0) }

theorem regrow_ok (hok : Ok P E C) {id ver sz e : Nat} {pin : Bool} (ht : C.tok id ver pin sz) (row : Array Value) (ty : TypeId) : Adv C (C.regrow id ver sz pin row ty e) ∧ Ok P E (C.regrow id ver sz pin row ty e) := by
  have hlt := hok.lt id _ ht trivial
  have hloc : (C.regrow id ver sz pin row ty e).loc id = C.w.heap.size := upd_same _ _ _
  have hnew : (C.regrow id ver sz pin row ty e).w.heap[C.w.heap.size]? = some (.cells row ty (0, 0)) := heap_alloc_new C.w.drew _
  have hold : ∀ b, b < C.w.heap.size → (C.regrow id ver sz pin row ty e).w.heap[b]? = C.w.heap[b]? := fun b hb => Go.heap_alloc_old C.w.drew _ hb
  have hcell : ∀ b off, b < C.w.heap.size → (C.regrow id ver sz pin row ty e).w.cell? ⟨b, off, none⟩ = C.w.cell? ⟨b, off, none⟩ := fun b off hb => by
    simp only [World.cell?, hold b hb]
  have hr : Retok P E C (C.regrow id ver sz pin row ty e) id ver pin sz (ver + 1) pin sz :=
    { was := ht, ents := rfl, mono := Nat.le_succ _, base := rfl, os := rfl, tape := rfl, output := rfl
      size := by show _ ≤ (C.w.heap.push _).size; rw [Array.size_push]; omega
      loc := fun r hr => upd_ne _ _ hr
      fe := fun r hr => upd_ne _ _ hr
      heap := fun b hb _ => hold b hb
      fz := fun b hb _ => upd_ne _ _ (by omega)
      cells := fun off v _ hv => by rw [hcell _ _ hlt.2]; exact hv
      fzold := by
        show _ ≤ upd C.fz _ _ (C.loc id)
        rw [upd_ne _ _ (by omega)]; exact Nat.le_refl _
      room := fun n => by
        rintro ⟨a, t, f, h1, h2⟩
        exact ⟨a, t, f, by rw [hold _ hlt.2]; exact h1, h2⟩
      same := fun h => absurd h (by omega)
      lt := by
        rw [hloc]
        exact ⟨hok.base, by show _ < (C.w.heap.push _).size; rw [Array.size_push]; omega⟩
      apart := fun s e' hs he ha => fun hl => by
        rw [hloc] at hl
        have := (hok.lt s e' he ha).2
        omega
      pinned := fun h => by
        rw [hloc]
        show upd C.fe id e id ≤ upd C.fz _ _ C.w.heap.size
        rw [upd_same, upd_same, h]; exact Nat.le_refl _
      fresh := fun b hb => by
        have hb' : C.w.heap.size + 1 ≤ b := by
          have : (C.w.heap.push _).size ≤ b := hb
          rwa [Array.size_push] at this
        show upd C.fz _ _ b = 0
        rw [upd_ne _ _ (by omega)]
        exact hok.fresh b (by omega) }
  refine ⟨hr.adv hok, hr.ok hok ⟨⟨row, ty, 0, 0, by rw [hloc]; exact hnew, .inr (.inl rfl)⟩, fun hp => ?_, ?_, fun hp => ?_⟩⟩
  · rw [hloc]
    show upd C.fz _ _ C.w.heap.size = 0
    rw [upd_same, hp]; rfl
  · rw [hloc]
    show upd C.fz _ _ C.w.heap.size ≤ upd C.fe id e id
    rw [upd_same, upd_same]
    cases pin <;> simp
  · rw [hloc]
    show upd C.fe id e id ≤ upd C.fz _ _ C.w.heap.size
    rw [upd_same, upd_same, hp]; exact Nat.le_refl _

/-- A token that may be leaned on to its frontier. -/
theorem slAt_tok {id ver sz off len cap : Nat} {pin : Bool} (ht : D.tok id ver pin sz) (hoff : off + len * sz = D.fe id) (hroom : D.room (D.loc id) (off + cap * sz)) (hpin : pin = true → D.fe id ≤ D.fz (D.loc id)) :
    SlAt D (.tk id ver) (some ⟨D.loc id, off, none⟩) len cap sz := by
  have huniq : ∀ p s, D.tok id ver p s → p = pin ∧ s = sz := fun p s h => by
    have := ht.symm.trans h
    cases this; exact ⟨rfl, rfl⟩
  refine ⟨(fun h => nomatch h), fun ad had => ?_, (fun h => nomatch h), fun id' ver' ho => ?_⟩
  · cases had
    refine ⟨rfl, fun _ => ⟨⟨ver, pin, sz, ht, Nat.le_refl _⟩, fun p s h => ?_⟩⟩
    obtain ⟨rfl, rfl⟩ := huniq p s h
    exact ⟨rfl, by simp only; omega, fun hp => by have := hpin hp; simp only; omega⟩
  · cases ho
    refine ⟨⟨ver, pin, sz, ht, Nat.le_refl _⟩, fun p s h => ?_⟩
    obtain ⟨rfl, rfl⟩ := huniq p s h
    exact ⟨fun _ => rfl, _, rfl, rfl, fun _ => hoff, hroom⟩

/-- the cells of two slices, laid one behind the other -/
theorem two_get {sz : Nat} {es xs : List TV} {row : Nat → Option Value} {olds news : List Value}
    (hes : ∀ e ∈ es, e.cells.length = sz ∧ Bare e.cells ∧ oneL e.cells = true) (hxs : ∀ e ∈ xs, e.cells.length = sz ∧ Bare e.cells ∧ oneL e.cells = true)
    (hold : ∀ k, k < es.length * sz → row k = olds[k]?) (hnew : ∀ k, k < xs.length * sz → row (es.length * sz + k) = news[k]?)
    (h1 : ∀ (i j : Nat) (e c : TV), es[i]? = some e → e.cells[j]? = some c → ∃ v, olds[i * sz + j]? = some v ∧ Rep D v c)
    (h2 : ∀ (i j : Nat) (e c : TV), xs[i]? = some e → e.cells[j]? = some c → ∃ v, news[i * sz + j]? = some v ∧ Rep D v c)
    (i j : Nat) (e c : TV) (he : (es ++ xs)[i]? = some e) (hc : e.cells[j]? = some c) : ∃ v, row (i * sz + j) = some v ∧ Rep D v c := by
  rcases Nat.lt_or_ge i es.length with hi | hi
  · rw [List.getElem?_append_left hi] at he
    have hj : j < sz := by rw [← (hes e (List.mem_of_getElem? he)).1]; exact (List.getElem?_eq_some_iff.1 hc).1
    rw [hold _ (mul_lt_row hi hj)]
    exact h1 i j e c he hc
  · rw [List.getElem?_append_right hi] at he
    have hj : j < sz := by rw [← (hxs e (List.mem_of_getElem? he)).1]; exact (List.getElem?_eq_some_iff.1 hc).1
    have hi' : i - es.length < xs.length := (List.getElem?_eq_some_iff.1 he).1
    have : i * sz + j = es.length * sz + ((i - es.length) * sz + j) := by
      rw [Nat.sub_mul]
      have : es.length * sz ≤ i * sz := Nat.mul_le_mul_right sz hi
      omega
    rw [this, hnew _ (mul_lt_row hi' hj)]
    exact h2 _ j e c he hc

theorem appendK_sound {R : Type} (hE : EnvOk0 P E) {σ : St} (hok : Ok P E C) (hc : C.ents = σ.ents) {t t2 ty : TypeId} {s x : TV} {sv xv : Value} {K : TV → St → Option R} {r : R} (hs : Rep C sv s) (hx : Rep C xv x)
    (h : appendK E σ t t2 s x K = some r) : Gives P E C σ ((Builtin.append_ #[t, t2] ty #[sv, xv]).run P C.w) K r := by
  unfold appendK at h
  obtain ⟨l, hl, h1⟩ := layK_some h
  obtain ⟨l2, hl2, h2⟩ := layK_some h1
  obtain ⟨ti, hti, hd, _, _, _, _, helt, _⟩ := layOf_facts (hE.lay _ _ hl)
  obtain ⟨ti2, hti2, hd2, _⟩ := layOf_facts (hE.lay _ _ hl2)
  clear h h1 hl hl2
  split at h2
  · rename_i e o es hu
    rw [hu] at hd
    obtain ⟨i, d, hi, hdj, helt', hesz, heb, _, hez, _⟩ := helt e (by rw [hu]; rfl)
    obtain ⟨hb, h3⟩ := tst_none h2
    simp only [Bool.and_eq_true] at hb
    obtain ⟨⟨hdata, hzk⟩, hzl⟩ := hb
    have hzl' := Nat.eq_of_beq_eq_true hzl
    rw [hez] at hzk hzl'
    obtain ⟨z, hz1, hz2⟩ := zeroT_known hzk
    have hzs : z.cells.size = l.esz := by
      rw [hz2] at hzk hzl'
      have := ((rep_ofVal C z).cells hzk).1
      rw [Array.length_toList] at this
      omega
    obtain ⟨xs, h4, hapd⟩ := appendedK_sound hok hc hx h3
    obtain ⟨p, cap, rfl, hcap⟩ := hs.slice_len
    rcases tst_some h4 with ⟨hb0, h5⟩ | ⟨hb0, h5⟩
    · have hx0 := Nat.eq_of_beq_eq_true hb0
      have hxn : xs = [] := List.length_eq_zero_iff.1 hx0
      subst hxn
      obtain ⟨news, hn⟩ := hapd rfl
      have hfc := hn.cells C.w 0 (Nat.zero_le _) (fun _ _ _ h => h)
      rw [Nat.zero_mul, List.take_zero, hesz] at hfc
      have := run_append_in (P := P) (ty := ty) (a := p) (sLen := es.length) (sCap := cap) hd hd2 hdata hi (hn.len C.w) hfc (by simpa using hcap)
      refine ⟨C, _, _, σ, ?_, Adv.refl C, hok, hc, Tame.refl σ, hs, h5⟩
      rw [this]
      cases p <;> simp [storeCells]
    · obtain ⟨hb1, h6⟩ := tst_none h5
      simp only [Bool.and_eq_true] at hb1
      obtain ⟨⟨⟨hby, hcnt⟩, hxhd⟩, hehd⟩ := hb1
      have hby' := Nat.le_of_ble_eq_true hby
      have hcnt' := Nat.le_of_ble_eq_true hcnt
      have hx0 : xs.length ≠ 0 := fun h => by rw [h] at hb0; cases hb0
      obtain ⟨news, hn⟩ := hapd hxhd
      have hnt : news.take (xs.length * l.esz) = news := List.take_of_length_le (by rw [hn.size]; exact Nat.le_refl _)
      have hfcn : ∀ w, (∀ b off v, C.w.cell? ⟨b, off, none⟩ = some v → w.cell? ⟨b, off, none⟩ = some v) → (Builtin.firstCells i.size xs.length xv).run P w = .ok news.toArray w := fun w hw => by
        have := hn.cells w xs.length (Nat.le_refl _) hw
        rwa [hnt, hesz] at this
      have hdrew : ∀ b off v, C.w.cell? ⟨b, off, none⟩ = some v → C.w.drew.cell? ⟨b, off, none⟩ = some v := fun _ _ _ h => h
      -- growth: what the run gives
      have hgrow : ∀ olds, Apd P C l.esz (.slice p es.length cap) es olds → cap < es.length + xs.length →
          ∃ gc, es.length + xs.length ≤ gc ∧ (Builtin.append_ #[t, t2] ty #[.slice p es.length cap, xv]).run P C.w =
            .ok (.slice (some ⟨C.w.heap.size, 0, none⟩) (es.length + xs.length) gc) (C.w.drew.alloc (.cells (olds.toArray ++ news.toArray ++ Builtin.zeroCells z.cells (gc - (es.length + xs.length))) e)) := by
        intro olds ho hg
        have hot : olds.take (es.length * l.esz) = olds := List.take_of_length_le (by rw [ho.size]; exact Nat.le_refl _)
        have h1 := ho.cells C.w.drew es.length (Nat.le_refl _) hdrew
        rw [hot, hesz] at h1
        exact ⟨_, grownCap_ge C.w _ cap e, run_append_out hd hd2 hdata hi hz1 (hn.len C.w) (hfcn C.w.drew hdrew) h1 hg (by omega) (growslice_fits hg (by rw [← heb]; exact hby'))⟩
      have hrow : ∀ (olds : List Value) (gc : Nat), olds.length = es.length * l.esz → es.length + xs.length ≤ gc →
          let row := olds.toArray ++ news.toArray ++ Builtin.zeroCells z.cells (gc - (es.length + xs.length))
          row.size = gc * l.esz ∧ (∀ k, k < es.length * l.esz → row[0 + k]? = olds[k]?) ∧ (∀ k, k < xs.length * l.esz → row[0 + (es.length * l.esz + k)]? = news[k]?) := by
        intro olds gc hol hgc row
        refine ⟨?_, fun k hk => ?_, fun k hk => ?_⟩
        · show (olds.toArray ++ news.toArray ++ Builtin.zeroCells z.cells (gc - (es.length + xs.length))).size = _
          simp only [Array.size_append, List.size_toArray, size_zeroCells, hzs, hol, hn.size, ← Nat.add_mul]
          congr 1
          omega
        · show (olds.toArray ++ news.toArray ++ Builtin.zeroCells z.cells (gc - (es.length + xs.length)))[0 + k]? = _
          rw [Nat.zero_add, Array.getElem?_append_left (by simp [hol]; omega), Array.getElem?_append_left (by simp [hol]; omega)]
          simp
        · show (olds.toArray ++ news.toArray ++ Builtin.zeroCells z.cells (gc - (es.length + xs.length)))[0 + (es.length * l.esz + k)]? = _
          rw [Nat.zero_add, Array.getElem?_append_left (by simp [hol, hn.size]; omega), Array.getElem?_append_right (by simp [hol])]
          simp [hol]
      split at h6
      · rename_i id ver
        obtain ⟨pin, sz, ht, h7⟩ := curK_some h6
        have ht' : C.tok id ver pin sz := by unfold Ctx.tok; rw [hc]; exact ht
        have hcur : C.cur (.tk id ver) := ⟨pin, sz, ht'⟩
        obtain ⟨hbs, h8⟩ := tst_none h7
        simp only [Bool.and_eq_true, Bool.not_eq_true'] at hbs
        have hss := Nat.eq_of_beq_eq_true hbs.1
        subst hss
        have hszn : ¬ l.esz = 0 := fun h0 => by have h9 := hbs.2; rw [h0] at h9; cases h9
        obtain ⟨olds, ho⟩ := Apd.ofSlice (P := P) hs hcur hehd
        have hlt : id < C.ents.length := (List.getElem?_eq_some_iff.1 ht').1
        by_cases hroomy : es.length + xs.length ≤ cap
        · -- in place
          obtain ⟨off, hp, hfe, arr, tyy, fr, hcell, hsize⟩ : ∃ off, p = some ⟨C.loc id, off, none⟩ ∧ off + es.length * l.esz = C.fe id ∧ ∃ arr ty fr, C.w.heap[C.loc id]? = some (.cells arr ty fr) ∧ off + cap * l.esz ≤ arr.size := by
            cases hs with
            | slice z f hlen hcap he hat _ hrep =>
              obtain ⟨_, hh⟩ := hat.tk id ver rfl
              obtain ⟨_, ad, ha, hbl, hoff, hroom⟩ := hh pin _ ht'
              obtain ⟨b, off, spot⟩ := ad
              have hsp := (hat.some _ ha).1
              simp only at hsp hbl; subst hsp; subst hbl
              exact ⟨off, ha, hoff (by omega), hroom⟩
          subst hp
          obtain ⟨⟨arr0, ty0, lo, hi0, hcell0, hfr⟩, _, hfzfe, hpfz⟩ := hok.obj id _ ht'
          rw [hcell] at hcell0; cases hcell0
          have hfit : off + es.length * l.esz + news.length ≤ arr.size := by
            rw [hn.size]
            have : (es.length + xs.length) * l.esz ≤ cap * l.esz := Nat.mul_le_mul_right _ hroomy
            rw [Nat.add_mul] at this
            omega
          have hst := run_storeCells_at (P := P) (C.loc id) tyy lo hi0 (off + es.length * l.esz) news 0 arr C.w hcell (hfr.resolve_left hszn) (by simpa using hfit) hn.one
          rw [Nat.add_zero] at hst
          have hrun := run_append_in (P := P) (ty := ty) (a := some ⟨C.loc id, off, none⟩) (sLen := es.length) (sCap := cap) hd hd2 hdata hi (hn.len C.w) (hfcn C.w (fun _ _ _ h => h)) hroomy
          simp only [addr_add, ← hesz] at hrun
          rw [hst, Result.andThen_ok] at hrun
          have hsz' := putCells_size hfit
          obtain ⟨hadv, hok'⟩ := fill_ok (e := off + (es.length + xs.length) * l.esz) (arr' := putCells arr (off + es.length * l.esz) news) hok ht' hcell hsz'
            (fun k hk => by rw [putCells_get hfit, if_pos (by omega)]) (by rw [← hfe, Nat.add_mul]; omega)
          refine ⟨_, _, _, σ.put id (.tok (ver + 1) pin l.esz), hrun, hadv, hok', ?_, Tame.put ht (fun _ _ _ => Nat.zero_le _), ?_, h8⟩
          · show C.ents.set id _ = (σ.put id _).ents
            rw [hc]; rfl
          · have htD : (C.fill id ver l.esz pin (putCells arr (off + es.length * l.esz) news) (off + (es.length + xs.length) * l.esz)).tok id (ver + 1) pin l.esz := List.getElem?_set_self hlt
            have hheap : (C.fill id ver l.esz pin (putCells arr (off + es.length * l.esz) news) (off + (es.length + xs.length) * l.esz)).w.heap[C.loc id]? = some (.cells (putCells arr (off + es.length * l.esz) news) tyy (lo, hi0)) :=
              setRow_heap C.w (C.loc id) arr _ tyy (lo, hi0) hcell
            have hll : (es ++ xs).length = es.length + xs.length := List.length_append
            have hgoal : Rep (C.fill id ver l.esz pin (putCells arr (off + es.length * l.esz) news) (off + (es.length + xs.length) * l.esz)) (.slice (some ⟨C.loc id, off, none⟩) (es ++ xs).length cap) (.slice (.tk id (ver + 1)) (es ++ xs)) := ?_
            · rw [hll] at hgoal; exact hgoal
            refine Rep.ofRow (sz := l.esz) hheap (fun e' he' => ?_) (fun a b e' c he' hc' => ?_) (by omega) ?_
            · rcases List.mem_append.1 he' with h | h
              · exact ho.elems e' h
              · exact hn.elems e' h
            · have := two_get (D := C) (row := fun k => (putCells arr (off + es.length * l.esz) news)[off + k]?) ho.elems hn.elems (fun k hk => ?_) (fun k hk => ?_) ho.get hn.get a b e' c he' hc'
              · obtain ⟨v, h1, h2⟩ := this
                exact ⟨v, h1, hadv.rep _ _ h2⟩
              · show (putCells arr (off + es.length * l.esz) news)[off + k]? = _
                rw [putCells_get hfit, if_pos (by omega)]
                have hkl : k < olds.length := by rw [ho.size]; exact hk
                have hrd : C.w.cell? ⟨C.loc id, off + k, none⟩ = olds[k]? := by
                  rw [List.getElem?_eq_getElem hkl]
                  exact ho.read _ _ _ _ rfl k _ (List.getElem?_eq_getElem hkl)
                rw [← hrd, cell_of_row C.w _ _ arr tyy (lo, hi0) hcell]
              · show (putCells arr (off + es.length * l.esz) news)[off + (es.length * l.esz + k)]? = _
                rw [putCells_get hfit, if_neg (by omega), if_pos (by rw [hn.size]; omega)]
                congr 1
                omega
            · refine slAt_tok htD ?_ ⟨_, tyy, (lo, hi0), hheap, by rw [hsz']; exact hsize⟩ (fun hp => ?_)
              · rw [hll]; exact (upd_same _ _ _).symm
              · show upd C.fe id _ id ≤ upd C.fz (C.loc id) _ (C.loc id)
                rw [upd_same, upd_same, hp]; exact Nat.le_refl _
        · obtain ⟨gc, hgc, hrun⟩ := hgrow olds ho (by omega)
          obtain ⟨hrs, hr1, hr2⟩ := hrow olds gc ho.size hgc
          obtain ⟨hadv, hok'⟩ := regrow_ok (e := (es.length + xs.length) * l.esz) hok ht' (olds.toArray ++ news.toArray ++ Builtin.zeroCells z.cells (gc - (es.length + xs.length))) e
          refine ⟨_, _, _, σ.put id (.tok (ver + 1) pin l.esz), hrun, hadv, hok', ?_, Tame.put ht (fun _ _ _ => Nat.zero_le _), ?_, h8⟩
          · show C.ents.set id _ = (σ.put id _).ents
            rw [hc]; rfl
          · generalize olds.toArray ++ news.toArray ++ Builtin.zeroCells z.cells (gc - (es.length + xs.length)) = row at *
            have htD : (C.regrow id ver l.esz pin row e ((es.length + xs.length) * l.esz)).tok id (ver + 1) pin l.esz := List.getElem?_set_self hlt
            have hloc : (C.regrow id ver l.esz pin row e ((es.length + xs.length) * l.esz)).loc id = C.w.heap.size := upd_same _ _ _
            have hheap : (C.regrow id ver l.esz pin row e ((es.length + xs.length) * l.esz)).w.heap[C.w.heap.size]? = some (.cells row e (0, 0)) := Go.heap_alloc_new C.w.drew _
            have hfe : (C.regrow id ver l.esz pin row e ((es.length + xs.length) * l.esz)).fe id = (es.length + xs.length) * l.esz := upd_same _ _ _
            have hll : (es ++ xs).length = es.length + xs.length := List.length_append
            have hgoal : Rep (C.regrow id ver l.esz pin row e ((es.length + xs.length) * l.esz)) (.slice (some ⟨C.w.heap.size, 0, none⟩) (es ++ xs).length gc) (.slice (.tk id (ver + 1)) (es ++ xs)) := by
              refine Rep.ofRow (sz := l.esz) hheap (fun e' he' => ?_) (fun a b e' c he' hc' => ?_) (by omega) ?_
              · rcases List.mem_append.1 he' with h | h
                · exact ho.elems e' h
                · exact hn.elems e' h
              · obtain ⟨v, h1, h2⟩ := two_get (D := C) (row := fun k => row[0 + k]?) ho.elems hn.elems hr1 hr2 ho.get hn.get a b e' c he' hc'
                exact ⟨v, h1, hadv.rep _ _ h2⟩
              · rw [← hloc]
                refine slAt_tok htD ?_ ⟨_, e, (0, 0), by rw [hloc]; exact hheap, by rw [hrs]; omega⟩ (fun hp => ?_)
                · rw [hll, hfe]; omega
                · rw [hloc, hfe]
                  show _ ≤ upd C.fz _ _ C.w.heap.size
                  rw [upd_same, hp]; exact Nat.le_refl _
            rw [hll] at hgoal; exact hgoal
      · obtain ⟨olds, ho⟩ := Apd.ofSlice (P := P) hs trivial hehd
        have hcl : cap = es.length := by
          cases hs with
          | slice z f hlen hcap he hat _ hrep => exact (hat.ex rfl).1
        obtain ⟨gc, hgc, hrun⟩ := hgrow olds ho (by omega)
        obtain ⟨hrs, hr1, hr2⟩ := hrow olds gc ho.size hgc
        generalize olds.toArray ++ news.toArray ++ Builtin.zeroCells z.cells (gc - (es.length + xs.length)) = row at *
        have hokd := ok_drewN hok (C.w.drawn + 1)
        have hgd := grew_drewN C (C.w.drawn + 1)
        have hg := grew_add (C.drewN (C.w.drawn + 1)) (.cells row e) (.tok 0 false l.esz) 0 ((es.length + xs.length) * l.esz)
        have hok' : Ok P E ((C.drewN (C.w.drawn + 1)).add (.cells row e) (.tok 0 false l.esz) 0 ((es.length + xs.length) * l.esz)) := by
          refine ok_add hokd _ _ _ _ ⟨⟨row, e, 0, 0, ?_, .inr (.inl rfl)⟩, fun _ => ?_, ?_, fun h => nomatch h⟩
          · rw [add_loc, add_heap]
          · rw [add_loc, add_fz]
          · rw [add_loc, add_fz]; exact Nat.zero_le _
        have hadv : Adv C ((C.drewN (C.w.drawn + 1)).add (.cells row e) (.tok 0 false l.esz) 0 ((es.length + xs.length) * l.esz)) := (hgd.adv hok).trans (hg.adv hokd)
        refine ⟨_, _, _, σ.add (.tok 0 false l.esz), hrun, hadv, hok', ?_, Tame.add _ _, ?_, h6⟩
        · show C.ents ++ _ = σ.ents ++ _
          rw [hc]
        · have hlen0 : σ.ents.length = C.ents.length := by rw [hc]
          rw [hlen0]
          have htD : ((C.drewN (C.w.drawn + 1)).add (.cells row e) (.tok 0 false l.esz) 0 ((es.length + xs.length) * l.esz)).tok C.ents.length 0 false l.esz := by
            show (C.ents ++ [_])[C.ents.length]? = _
            simp
          have hloc : ((C.drewN (C.w.drawn + 1)).add (.cells row e) (.tok 0 false l.esz) 0 ((es.length + xs.length) * l.esz)).loc C.ents.length = C.w.heap.size := add_loc (C := C.drewN (C.w.drawn + 1)) _ _ _ _
          have hheap : ((C.drewN (C.w.drawn + 1)).add (.cells row e) (.tok 0 false l.esz) 0 ((es.length + xs.length) * l.esz)).w.heap[C.w.heap.size]? = some (.cells row e (0, 0)) := add_heap (C := C.drewN (C.w.drawn + 1)) _ _ _ _
          have hfe : ((C.drewN (C.w.drawn + 1)).add (.cells row e) (.tok 0 false l.esz) 0 ((es.length + xs.length) * l.esz)).fe C.ents.length = (es.length + xs.length) * l.esz := add_fe (C := C.drewN (C.w.drawn + 1)) _ _ _ _
          generalize ((C.drewN (C.w.drawn + 1)).add (.cells row e) (.tok 0 false l.esz) 0 ((es.length + xs.length) * l.esz)) = D at *
          have hll : (es ++ xs).length = es.length + xs.length := List.length_append
          have hgoal : Rep D (.slice (some ⟨C.w.heap.size, 0, none⟩) (es ++ xs).length gc) (.slice (.tk C.ents.length 0) (es ++ xs)) := by
            refine Rep.ofRow (sz := l.esz) hheap (fun e' he' => ?_) (fun a b e' c he' hc' => ?_) (by omega) ?_
            · rcases List.mem_append.1 he' with h | h
              · exact ho.elems e' h
              · exact hn.elems e' h
            · obtain ⟨v, h1, h2⟩ := two_get (D := C) (row := fun k => row[0 + k]?) ho.elems hn.elems hr1 hr2 ho.get hn.get a b e' c he' hc'
              exact ⟨v, h1, hadv.rep _ _ h2⟩
            · rw [← hloc]
              refine slAt_tok htD ?_ ⟨_, e, (0, 0), by rw [hloc]; exact hheap, by rw [hrs]; omega⟩ (fun hp => nomatch hp)
              rw [hll, hfe]; omega
          rw [hll] at hgoal; exact hgoal
      · cases h6
  · cases h2
end
end Go.Tv

/- Copying; new slices. -/
namespace Go.Tv
open Go Go.RowKit

section
variable {P : Program} {E : Env} {C D : Ctx}

theorem copyK_sound {R : Type} (hE : EnvOk0 P E) {σ : St} (hok : Ok P E C) (hc : C.ents = σ.ents) {t ty : TypeId} {ts : List TypeId} {d s : TV} {dv sv : Value} {K : TV → St → Option R} {r : R} (hd : Rep C dv d) (hs : Rep C sv s)
    (h : copyK E σ t d s K = some r) : Gives P E C σ ((Builtin.copy_ (t :: ts).toArray ty #[dv, sv]).run P C.w) K r := by
  unfold copyK at h
  obtain ⟨l, hl, h1⟩ := layK_some h
  obtain ⟨ti, hti, hd0, _, _, _, _, helt, _⟩ := layOf_facts (hE.lay _ _ hl)
  obtain ⟨hsl, h2⟩ := tst_none h1
  obtain ⟨e, hu⟩ : ∃ e, l.und = .slice e := by
    split at hsl
    · exact ⟨_, by assumption⟩
    · cases hsl
  obtain ⟨i, de, hi, hde, helt', hesz, _⟩ := helt e (by rw [hu]; rfl)
  rw [hu] at hd0
  clear h h1
  split at h2
  · rename_i r' off len sz ag
    obtain ⟨xs, h3, hapd⟩ := appendedK_sound hok hc hs h2
    split at h3
    · rename_i tyb cs hbox
      obtain ⟨hb, h4⟩ := tst_none h3
      simp only [Bool.and_eq_true] at hb
      obtain ⟨⟨⟨⟨hsz, hez⟩, hle⟩, hone⟩, hflat⟩ := hb
      have hez' := Nat.eq_of_beq_eq_true hez
      have hle' := Nat.le_of_ble_eq_true hle
      have hcells1 : ∀ e ∈ xs, e.cells = [e] := fun e he => one_cells (oneL_iff.1 hone e he)
      have hhd : headSz l.esz xs = true := by
        cases xs with
        | nil => rfl
        | cons x xs =>
          show Nat.beq x.cells.length l.esz = true
          rw [hcells1 x List.mem_cons_self, hez']; rfl
      obtain ⟨news, hn⟩ := hapd hhd
      rw [hez'] at hn hesz
      have hbox' : C.ents[r']? = some (.box tyb cs) := by rw [hc]; exact hbox
      obtain ⟨hfz, arr, lo, hi0, hheap, hfr, hrep⟩ := hok.obj r' _ hbox'
      cases hd with
      | bsl hp hlen hoo =>
        rename_i off2 cap
        have hmin : Nat.min xs.length len ≤ xs.length := Nat.min_le_left _ _
        have hfc := hn.cells C.w (Nat.min xs.length len) hmin (fun _ _ _ h => h)
        rw [Nat.mul_one] at hfc
        have hnews : RepL C (news.take (Nat.min xs.length len)) (xs.take (Nat.min xs.length len)) := by
          refine RepL.take _ ⟨by rw [hn.size, Nat.mul_one], fun i v u hv hu' => ?_⟩
          obtain ⟨v', h1, h2⟩ := hn.get i 0 u u hu' (by rw [hcells1 u (List.mem_of_getElem? hu')]; rfl)
          rw [Nat.mul_one, Nat.add_zero, hv] at h1
          cases h1; exact h2
        have hsize : cs.length = arr.size := by rw [← hrep.1, Array.length_toList]
        have hnl : (news.take (Nat.min xs.length len)).length = Nat.min xs.length len := by
          rw [List.length_take, hn.size, Nat.mul_one]; exact Nat.min_eq_left hmin
        have hml : Nat.min xs.length len ≤ len := Nat.min_le_right _ _
        have hrun : (Builtin.copy_ (t :: ts).toArray ty #[.slice (some ⟨C.loc r', off2, none⟩) len cap, sv]).run P C.w =
            .ok (.int .i64 (Nat.min xs.length len)) (C.w.setRow (C.loc r') (putCells arr off (news.take (Nat.min xs.length len)))) := by
          have hst : (storeCells ⟨C.loc r', off2, none⟩ (news.take (Nat.min xs.length len)) : Sem Unit).run P C.w = .ok () (C.w.setRow (C.loc r') (putCells arr off (news.take (Nat.min xs.length len)))) := by
            by_cases hl0 : len = 0
            · subst hl0
              have h0 : Nat.min xs.length 0 = 0 := Nat.min_zero _
              rw [h0, List.take_zero]
              have := run_storeCells_at (P := P) (C.loc r') tyb lo hi0 0 [] 0 arr C.w hheap hfr (by simp) (fun v hv => nomatch hv)
              have e1 : putCells arr off [] = putCells arr 0 [] := by simp [putCells]
              rw [e1]
              exact this
            · rw [hoo hl0]
              have := run_storeCells_at (P := P) (C.loc r') tyb lo hi0 off (news.take (Nat.min xs.length len)) 0 arr C.w hheap hfr (by rw [hnl]; omega) (fun v hv => hn.one v (List.mem_of_mem_take hv))
              exact this
          have hgo : goInt (Nat.min xs.length len) = Value.int .i64 (Nat.min xs.length len) := by
            rfl
          simp [Builtin.copy_, run_underlying hd0, hn.len, run_size hi, ← hesz, hfc, hst, hgo]
        obtain ⟨hadv, hok'⟩ := box_ok hok hbox' hheap hfr (putCells_size (by rw [hnl]; omega)) (putCells_rep (off := off) hrep hnews)
        refine ⟨_, _, _, _, hrun, hadv, hok', ?_, ?_, ?_, h4⟩
        · show C.ents.set r' _ = (σ.put r' _).ents
          rw [hc]; rfl
        · refine Tame.put hbox (fun n _ hle => ?_)
          have h1 := refsL_fillAt cs off (xs.take (min xs.length len))
          have h2 := refsL_take (min xs.length len) xs
          have h3 := flat_refsL hflat
          have hle' : TV.refsL cs ≤ n := hle
          show TV.refsL (fillAt cs off (xs.take (min xs.length len))) ≤ n
          omega
        · exact .int _ _
    · cases h3
  · rename_i o
    obtain ⟨xs, h3, hapd⟩ := appendedK_sound hok hc hs h2
    obtain ⟨hhd, h4⟩ := tst_none h3
    obtain ⟨news, hn⟩ := hapd hhd
    obtain ⟨p, cap, rfl, hcap⟩ := hd.slice_len
    have hfc := hn.cells C.w 0 (Nat.zero_le _) (fun _ _ _ h => h)
    rw [Nat.zero_mul, List.take_zero, hesz] at hfc
    refine ⟨C, _, _, σ, ?_, Adv.refl C, hok, hc, Tame.refl σ, .int .i64 0, h4⟩
    cases p <;> simp [Builtin.copy_, run_underlying hd0, hn.len, run_size hi, hfc, storeCells] <;> rfl
  · cases h2
end
end Go.Tv

/- Maps, new slices. -/
namespace Go.Tv
open Go Go.RowKit

section
variable {P : Program} {E : Env} {C D : Ctx}

/-- One entry's object is another. -/
def Ctx.setObj (C : Ctx) (r : Nat) (o : Obj) (e' : Ent) : Ctx := { C with w := { C.w with heap := C.w.heap.setIfInBounds (C.loc r) o }, ents := C.ents.set r e' }

theorem setObj_heap_same {r : Nat} {o o0 : Obj} {e' : Ent} (hh : C.w.heap[C.loc r]? = some o0) : (C.setObj r o e').w.heap[C.loc r]? = some o := by
  have := (Array.getElem?_eq_some_iff.1 hh).1
  show (C.w.heap.setIfInBounds _ _)[_]? = _
  rw [Array.getElem?_setIfInBounds_self, if_pos this]

theorem turned_obj {r : Nat} {e e' : Ent} {o o0 : Obj} (he : C.ents[r]? = some e) (ha : e.alive) (ht : ∀ v p s, e ≠ .tok v p s) (ht' : ∀ v p s, e' ≠ .tok v p s) (hz : C.fz (C.loc r) = 0)
    (hh : C.w.heap[C.loc r]? = some o0) (hno : ∀ a t f, o0 ≠ .cells a t f) : Turned C (C.setObj r o e') r e e' where
  heap b hb := by
    show (C.w.heap.setIfInBounds _ _)[_]? = _
    rw [Array.getElem?_setIfInBounds_ne (Ne.symm hb)]
  size := by show (C.w.heap.setIfInBounds _ _).size = _; simp
  os := rfl
  tape := rfl
  output := rfl
  base := rfl
  loc := rfl
  fz := rfl
  fe := rfl
  ents := rfl
  was := he
  alive := ha
  tok := ht
  tok' := ht'
  fz0 := hz
  room n := by
    rintro ⟨a, t, f, h1, _⟩
    rw [hh] at h1; cases h1
    exact absurd rfl (hno a t f)

/-! ### keys -/
theorem keyEq_sound (hE : EnvOk0 P E) {kt : TypeId} {a b : TV} {x y : Value} {q : Bool} (h : keyEq E (E.lay kt) a b = some q) (hx : Rep C x a) (hy : Rep C y b) (w : World) :
    (Op.equal kt x y).run P w = .ok q w ∧ ∃ d, P.underlying kt = some d ∧ ((d = .string ∧ Instr.sameNow d x y = some q) ∨ ∃ fs, d = .struct fs) := by
  unfold keyEq at h
  split at h
  · rename_i l hl
    obtain ⟨i, hi, hd, _, _, _, _, _, hfl, hfe, _⟩ := layOf_facts (hE.lay _ _ hl)
    split at h
    · rename_i s t hu
      rw [hu] at hd
      cases hx; cases hy; cases h
      refine ⟨?_, _, hd, .inl ⟨rfl, ?_⟩⟩
      · show (Op.equalIn 10000 kt _ _).run P w = _
        rw [run_equalIn_string w 9999 kt _ _ hd, bytes_toList, bytes_toList]
      · simp only [Instr.sameNow]
        rw [beq_toListBytes, bytes_toList, bytes_toList]
    · rename_i fs xs ys hu
      split at h
      · rename_i hq
        obtain ⟨gs, hu', hfo, hnames, hst⟩ := structEq_facts (hfe hq)
        obtain ⟨X, rfl, hX⟩ := hx.agg_inv
        obtain ⟨Y, rfl, hY⟩ := hy.agg_inv
        have hu2 : l.und = .struct gs := Option.some.inj (hd.symm.trans hu')
        refine ⟨?_, _, hu', .inr ⟨_, rfl⟩⟩
        show (Op.equalIn 10000 kt (.agg X) (.agg Y)).run P w = .ok q w
        rw [run_equalIn_agg w 9999 kt _ _ (by rw [hfo]; exact hu') hst, hfo]
        exact eqFlds_sound hE 4 gs.toList l.flds xs ys _ _ q 9999 w (by omega) (hfl gs hu2) hnames hX hY h
      · cases h
    · cases h
  · cases h

/-- entries stand for pairs -/
def RepE (C : Ctx) (en : List MapEntry) (es : List (TV × TV)) : Prop :=
  en.length = es.length ∧ ∀ (i : Nat) (e : MapEntry) (kv : TV × TV), en[i]? = some e → es[i]? = some kv → Rep C e.key kv.1 ∧ Rep C e.val kv.2

theorem RepE.tail {e : MapEntry} {en : List MapEntry} {kv : TV × TV} {es : List (TV × TV)} (h : RepE C (e :: en) (kv :: es)) : RepE C en es :=
  ⟨by simpa using h.1, fun i e' kv' h1 h2 => h.2 (i + 1) e' kv' (by simpa using h1) (by simpa using h2)⟩

/-- what a search finds -/
def Found (en : List MapEntry) (i0 : Nat) : Option Nat → Option (Nat × Value) → Prop
  | none, q => q = none
  | some i, q => ∃ n e, i = i0 + n ∧ en[n]? = some e ∧ q = some (i, e.val)

theorem findKey_all (hE : EnvOk0 P E) {kt : TypeId} {k : TV} {key : Value} (hk : Rep C key k) (w : World) : ∀ (es : List (TV × TV)) (en : List MapEntry) (i : Nat) (res : Option Nat), RepE C en es → findKey E (E.lay kt) k es i = some res →
    ∃ q, Found en i res q ∧ (Instr.findAsking kt key en i).run P w = .ok q w ∧ ((∃ d, P.underlying kt = some d ∧ d = .string) → Instr.findNow .string key en i = some q) ∧ (en ≠ [] → (∃ fs, P.underlying kt = some (.struct fs)) → ∀ d, P.underlying kt = some d → Instr.findNow d key en i = none)
  | [], en, i, res, hr, h => by
    have : en = [] := List.length_eq_zero_iff.1 hr.1
    subst this
    cases h
    exact ⟨none, rfl, by simp [Instr.findAsking], fun _ => rfl, fun h => absurd rfl h⟩
  | (j, v) :: es, en, i, res, hr, h => by
    cases en with
    | nil => exact absurd hr.1 (by simp)
    | cons e en =>
      have hj := (hr.2 0 e (j, v) rfl rfl).1
      unfold findKey at h
      split at h
      · rename_i hq
        cases h
        obtain ⟨h1, d, hd, h2⟩ := keyEq_sound hE hq hk hj w
        refine ⟨some (i, e.val), ⟨0, e, rfl, rfl, rfl⟩, by simp [Instr.findAsking, h1], fun ⟨d', hd', hs⟩ => ?_, fun _ ⟨fs, hfs⟩ d' hd' => ?_⟩
        · rcases h2 with ⟨rfl, h2⟩ | ⟨fs, rfl⟩
          · simp only [Instr.findNow, h2]
          · rw [hd] at hd'; cases hd'; cases hs
        · rw [hfs] at hd'; cases hd'
          simp [Instr.findNow, Instr.sameNow]
      · rename_i hq
        obtain ⟨h1, d, hd, h2⟩ := keyEq_sound hE hq hk hj w
        obtain ⟨q, hf, ha, hn, _⟩ := findKey_all hE hk w es en (i + 1) res hr.tail h
        refine ⟨q, ?_, by simp [Instr.findAsking, h1, ha], fun hs => ?_, fun _ ⟨fs, hfs⟩ d' hd' => ?_⟩
        · cases res with
          | none => exact hf
          | some i' =>
            obtain ⟨n, e', h1, h2, h3⟩ := hf
            exact ⟨n + 1, e', by omega, by simpa using h2, h3⟩
        · have hn' := hn hs
          obtain ⟨d', hd', hs⟩ := hs
          rcases h2 with ⟨rfl, h2⟩ | ⟨fs, rfl⟩
          · simp only [Instr.findNow, h2, hn']
          · rw [hd] at hd'; cases hd'; cases hs
        · rw [hfs] at hd'; cases hd'
          simp [Instr.findNow, Instr.sameNow]
      · cases h

theorem findKey_sound (hE : EnvOk0 P E) {kt : TypeId} {k : TV} {key : Value} (hk : Rep C key k) (w : World) {es : List (TV × TV)} {en : List MapEntry} {res : Option Nat} (hr : RepE C en es) (hfit : keyFit E (E.lay kt) k = true)
    (h : findKey E (E.lay kt) k es 0 = some res) : ∃ q, Found en 0 res q ∧ (Instr.findKey kt key en).run P w = .ok q w := by
  obtain ⟨q, hf, ha, hn, hs⟩ := findKey_all hE hk w es en 0 res hr h
  refine ⟨q, hf, ?_⟩
  unfold keyFit at hfit
  split at hfit
  · rename_i l hl
    obtain ⟨i, hi, hd, _⟩ := layOf_facts (hE.lay _ _ hl)
    split at hfit
    · rename_i s hu
      rw [hu] at hd
      have := hn ⟨_, hd, rfl⟩
      simp [Instr.findKey, run_underlying hd, this]
    · rename_i fs xs hu
      rw [hu] at hd
      by_cases hne : en = []
      · subst hne
        have h1 : (Instr.findAsking kt key [] 0).run P w = .ok none w := by simp [Instr.findAsking]
        rw [h1] at ha
        cases ha
        simp [Instr.findKey, run_underlying hd, Instr.findNow]
      · have := hs hne ⟨_, hd⟩ _ hd
        simp [Instr.findKey, run_underlying hd, this, ha]
    · cases hfit
  · cases hfit

theorem check_sound (hE : EnvOk0 P E) : ∀ (n : Nat) (t : TypeId) (l : Lay) (fs : Array Field) (xs : List TV) (X : Array Value) (r : Bool) (m : Nat) (em : Bool) (w : World), n ≤ m → E.lay t = some l → l.und = .struct fs → l.feq = true →
    RepL C X.toList xs → eqFlds E n l.flds xs xs = some r → (Instr.checkKey em (m + 1) t (.agg X)).run P w = .ok () w := by
  intro n
  induction n with
  | zero => intro t l fs xs X r m em w _ _ _ _ _ h; simp [eqFlds] at h
  | succ n ihn =>
    intro t l fs xs X r m em w hm hl hu hq hx h
    obtain ⟨i, hi, hd, _, _, _, _, _, hfl, hfe, _⟩ := layOf_facts (hE.lay _ _ hl)
    obtain ⟨gs, hu', hfo, hnames, hst⟩ := structEq_facts (hfe hq)
    rw [hu] at hd
    obtain rfl : fs = gs := by
      rw [hd] at hu'; cases hu'; rfl
    have hlf := hfl fs hu
    rw [Instr.checkKey]
    simp only [Sem.run_bind, run_underlying hd, Result.andThen_ok]
    rw [← Array.forIn_toList]
    generalize fs.toList = L at hlf hnames
    generalize l.flds = F at hlf h
    clear hd hu hu' hfo hfl hfe hl hq hst
    induction L generalizing F r with
    | nil => simp
    | cons f L ih =>
      obtain ⟨i', d', rest, hi', hd', hr', rfl⟩ := layFlds_cons hlf
      simp only [eqFlds, eqList] at h
      obtain ⟨b1, b2, h1, h2, rfl⟩ := andO_some h
      obtain ⟨m', rfl⟩ : ∃ m', m = m' + 1 := ⟨m - 1, by omega⟩
      have hfirst : ∃ a, (part f.type X f.offset).run P w = .ok a w ∧ (Instr.checkKey em (m' + 1) f.type a).run P w = .ok () w := by
        split at h1
        · cases h1
        · rename_i lf hlf'
          obtain ⟨i2, hi2, hd2, _⟩ := layOf_facts (hE.lay _ _ hlf')
          rw [hi'] at hi2; cases hi2
          rw [hd'] at hd2; cases hd2
          split at h1
          · rename_i hag
            split at h1
            · rename_i a b ha hb
              rw [ha] at hb; cases hb
              have ha' : X.toList[f.offset]? = some (X.toList[f.offset]'(by rw [hx.1]; exact (List.getElem?_eq_some_iff.1 ha).1)) := List.getElem?_eq_getElem _
              have hra := hx.2 _ _ _ ha' ha
              refine ⟨_, by rw [run_part hi' hd', if_neg (by simp [hag]), ← Array.getElem?_toList, ha'], ?_⟩
              generalize X.toList[f.offset]'_ = va at hra
              unfold Instr.checkKey
              simp only [Sem.run_bind, run_underlying hd', Result.andThen_ok]
              unfold eqCell at h1
              split at h1
              · cases hra; simp_all
              · split at h1
                · cases hra; simp_all
                · cases h1
              · cases hra; simp_all
              · cases h1
            · cases h1
          · rename_i hag
            split at h1
            · rename_i hcond
              simp only [Bool.and_eq_true] at hcond
              obtain ⟨⟨hq2, hxl⟩, _⟩ := hcond
              have hagd : isAggD lf.und = true := by simpa using hag
              obtain ⟨_, _, _, _, _, _, _, _, _, hfe2, _⟩ := layOf_facts (hE.lay _ _ hlf')
              obtain ⟨gs2, hu2, _, _, _⟩ := structEq_facts (hfe2 hq2)
              rw [hd'] at hu2
              have e1 : (X.extract f.offset (f.offset + i'.size)).toList = (X.toList.drop f.offset).take i'.size := by
                rw [Array.toList_extract, List.extract_eq_take_drop]; congr 1; omega
              refine ⟨_, by rw [run_part hi' hd', if_pos hag], ?_⟩
              exact ihn f.type lf gs2 _ _ b1 m' em w (by omega) hlf' (Option.some.inj hu2) hq2 (by rw [e1]; exact (hx.drop _).take _) h1
            · cases h1
      obtain ⟨a, p1, p2⟩ := hfirst
      have hn := hnames f List.mem_cons_self
      simp only [List.forIn_cons, Sem.run_bind, hn, ne_eq, not_false_eq_true, if_true, Result.andThen_ok, p1, p2, Sem.run_pure]
      exact ih b2 (fun y hy => hnames y (List.mem_cons_of_mem _ hy)) rest hr' (by simp only [eqFlds]; exact h2)

theorem keyFit_sound (hE : EnvOk0 P E) {kt : TypeId} {k : TV} {key : Value} (hk : Rep C key k) (h : keyFit E (E.lay kt) k = true) (em : Bool) (w : World) : (Instr.checkKey em 10000 kt key).run P w = .ok () w := by
  unfold keyFit at h
  split at h
  · rename_i l hl
    obtain ⟨i, hi, hd, _⟩ := layOf_facts (hE.lay _ _ hl)
    split at h
    · rename_i s hu
      rw [hu] at hd
      cases hk
      show (Instr.checkKey em (9999 + 1) kt _).run P w = _
      unfold Instr.checkKey
      simp only [Sem.run_bind, run_underlying hd, Result.andThen_ok]; rfl
    · rename_i fs xs hu
      simp only [Bool.and_eq_true] at h
      obtain ⟨X, rfl, hX⟩ := hk.agg_inv
      obtain ⟨r, hr⟩ := Option.isSome_iff_exists.1 h.2
      exact check_sound hE 4 kt l fs xs X r 9999 em w (by omega) hl hu h.1.1 hX hr
    · cases h
  · cases h

theorem sameCells_sound : ∀ {xs ys : List TV} {us vs : List Value}, sameCells xs ys = true → RepL C us xs → RepL C vs ys → us = vs ∧ ∀ n, (us.zip vs).all (fun p => Instr.sameBits n p.1 p.2) = true
  | [], [], us, vs, _, hu, hv => by rw [hu.nil_inv, hv.nil_inv]; exact ⟨rfl, fun _ => rfl⟩
  | a :: xs, b :: ys, us, vs, h, hu, hv => by
    obtain ⟨u, us, rfl, hu1, hu2⟩ := hu.cons_inv
    obtain ⟨v, vs, rfl, hv1, hv2⟩ := hv.cons_inv
    simp only [sameCells, Bool.and_eq_true] at h
    obtain ⟨rfl, ih⟩ := sameCells_sound h.2 hu2 hv2
    have h1 := h.1
    unfold sameCell at h1
    split at h1
    · cases hu1; cases hv1
      have := eq_of_beq h1
      subst this
      exact ⟨rfl, fun n => by simp [List.zip_cons_cons, List.all_cons, ih n, Instr.sameBits]⟩
    · cases hu1; cases hv1
      simp only [Bool.and_eq_true, decide_eq_true_eq] at h1
      obtain ⟨rfl, rfl⟩ := h1
      exact ⟨rfl, fun n => by simp [List.zip_cons_cons, List.all_cons, ih n, Instr.sameBits]⟩
    · cases hu1; cases hv1
      have := eq_of_beq h1
      subst this
      exact ⟨rfl, fun n => by simp [List.zip_cons_cons, List.all_cons, ih n, Instr.sameBits, beq_toListBytes]⟩
    · cases h1
  | [], _ :: _, _, _, h, _, _ => by simp [sameCells] at h
  | _ :: _, [], _, _, h, _, _ => by simp [sameCells] at h

theorem keyStays_sound {old key : Value} {j k : TV} (h : sameKey j k = true) (ho : Rep C old j) (hk : Rep C key k) (w : World) : (Instr.keyThatStays old key).run P w = .ok key w := by
  unfold sameKey at h
  split at h
  · cases ho; cases hk
    have := eq_of_beq h
    subst this
    simp [Instr.keyThatStays, Instr.sameBits, beq_toListBytes]
  · obtain ⟨X, rfl, hX⟩ := ho.agg_inv
    obtain ⟨Y, rfl, hY⟩ := hk.agg_inv
    obtain ⟨he, ha⟩ := sameCells_sound h hX hY
    have hs : X.size = Y.size := by rw [← Array.length_toList, ← Array.length_toList, he]
    have : Instr.sameBits (9999 + 1) (.agg X) (.agg Y) = true := by
      unfold Instr.sameBits
      simp only [hs, beq_self_eq_true, Bool.true_and]
      exact ha 9999
    simp [Instr.keyThatStays, this]
  · cases h

theorem mapK_some {R : Type} {σ : St} {m : TV} {K : Nat → TypeId → List (TV × TV) → Option R} {r : R} (h : mapK σ m K = some r) : ∃ b t es, m = .map b ∧ σ.ents[b]? = some (.map t es) ∧ K b t es = some r := by
  unfold mapK at h
  split at h
  · split at h
    · exact ⟨_, _, _, rfl, by assumption, h⟩
    · cases h
  · cases h

theorem keyK_some {R : Type} {lk : Option Lay} {k : TV} {es : List (TV × TV)} {yes : Nat → Option R} {no : Option R} {r : R} (h : keyK E lk k es yes no = some r) :
    (∃ i, findKey E lk k es 0 = some (some i) ∧ yes i = some r) ∨ (findKey E lk k es 0 = some none ∧ no = some r) := by
  unfold keyK at h
  split at h
  · exact .inl ⟨_, by assumption, h⟩
  · exact .inr ⟨by assumption, h⟩
  · cases h

/-- A map that is there. -/
theorem map_ent (hok : Ok P E C) {σ : St} (hc : C.ents = σ.ents) {b : Nat} {t : TypeId} {es : List (TV × TV)} (h : σ.ents[b]? = some (.map t es)) :
    ∃ en : Array MapEntry, C.ents[b]? = some (.map t es) ∧ C.fz (C.loc b) = 0 ∧ C.w.heap[C.loc b]? = some (.map en es.length) ∧ RepE C en.toList es ∧ ∀ (i : Nat) (e : MapEntry), en[i]? = some e → e.born = i := by
  have h' : C.ents[b]? = some (.map t es) := by rw [hc]; exact h
  obtain ⟨h0, en, h1, h2, h3⟩ := hok.obj _ _ h'
  refine ⟨en, h', h0, h1, ⟨by rw [Array.length_toList]; exact h2, fun i e kv he hkv => ?_⟩, fun i e he => ?_⟩
  · have := h3 i e kv (by rw [← he]; simp) hkv
    exact this.2
  · have hlt : i < es.length := by rw [← h2]; exact (Array.getElem?_eq_some_iff.1 he).1
    exact (h3 i e es[i] he (List.getElem?_eq_getElem hlt)).1

/-- A map's entries are others. -/
theorem map_ok (hok : Ok P E C) {b : Nat} {t : TypeId} {es es' : List (TV × TV)} (he : C.ents[b]? = some (.map t es)) {o0 : Obj} (hh : C.w.heap[C.loc b]? = some o0) (hno : ∀ a t f, o0 ≠ .cells a t f) {en' : Array MapEntry}
    (hr : RepE C en'.toList es') (hb : ∀ (i : Nat) (e : MapEntry), en'[i]? = some e → e.born = i) :
    Adv C (C.setObj b (.map en' es'.length) (.map t es')) ∧ Ok P E (C.setObj b (.map en' es'.length) (.map t es')) := by
  have h0 := (hok.obj _ _ he).1
  have ht : Turned C (C.setObj b (.map en' es'.length) (.map t es')) b (.map t es) (.map t es') := turned_obj he trivial (fun _ _ _ h => nomatch h) (fun _ _ _ h => nomatch h) h0 hh hno
  refine ⟨ht.adv hok, ht.ok hok ⟨h0, en', setObj_heap_same hh, ?_, fun i e kv h1 h2 => ⟨hb i e h1, ?_⟩⟩⟩
  · rw [← Array.length_toList]; exact hr.1
  · have := hr.2 i e kv (by rw [← h1]; simp) h2
    exact ⟨(ht.adv hok).rep _ _ this.1, (ht.adv hok).rep _ _ this.2⟩

theorem isMapD_some {d : TypeDesc} (h : isMapD d = true) : ∃ k e, d = .map k e := by
  cases d <;> simp [isMapD] at h
  exact ⟨_, _, rfl⟩

theorem lookupK_sound {R : Type} (hE : EnvOk0 P E) {σ : St} (hok : Ok P E C) (hc : C.ents = σ.ents) {t : TypeId} {m k : TV} {mv kv : Value} {ok : Bool} {K : TV → Option R} {r : R} (hm : Rep C mv m) (hk : Rep C kv k)
    (h : lookupK E σ t m k ok K = some r) : ∃ val v, (Instr.lookup t mv kv ok).run P C.w = .ok val C.w ∧ Rep C val v ∧ K v = some r := by
  obtain ⟨l, hl, h1⟩ := layK_some h
  obtain ⟨i, hi, hd, _, _, _, _, helt, _, _, _, hkey, _⟩ := layOf_facts (hE.lay _ _ hl)
  obtain ⟨hf, h2⟩ := tst_none h1
  simp only [Bool.and_eq_true] at hf
  obtain ⟨⟨hmd, hfit⟩, hzk⟩ := hf
  obtain ⟨kt, e, hu⟩ := isMapD_some hmd
  rw [hu] at hd
  obtain ⟨j, d, hj, hdj, _, _, _, _, hez, _⟩ := helt e (by rw [hu]; rfl)
  rw [hkey kt e hu] at hfit h2
  rw [hez] at hzk h2
  obtain ⟨z, hz1, hz2⟩ := zeroT_known hzk
  rw [hz2] at h2
  have hzr := rep_ofVal C z
  have tup : ∀ {a : Value} {v : TV} {b : Bool}, Rep C a v → Rep C (.tuple #[a, .bool b]) (.tuple [v, .bool b]) := fun ha => Rep.mkTuple (RepL.cons ha (RepL.cons (.bool _) RepL.nil))
  clear h h1
  split at h2
  · cases hm
    have hfk : (Instr.findKey kt kv []).run P C.w = .ok none C.w := by
      obtain ⟨q, h3, h4⟩ := findKey_sound hE hk C.w (es := []) (en := []) (res := none) ⟨rfl, fun i e kv h => by simp at h⟩ hfit rfl
      have h3' : q = none := h3
      rw [h4, h3']
    have hrun : (Instr.lookup t (.map none) kv ok).run P C.w = .ok (if ok then .tuple #[z, .bool false] else z) C.w := by
      simp [Instr.lookup, run_underlying hd, keyFit_sound hE hk hfit, hfk, run_zeroValue hj hz1]
    split at h2
    · exact ⟨_, _, hrun, tup hzr, h2⟩
    · exact ⟨_, _, hrun, hzr, h2⟩
  · obtain ⟨b, t', es, rfl, he, h3⟩ := mapK_some h2
    obtain ⟨en, he', _, hh, hr, hb⟩ := map_ent hok hc he
    cases hm with
    | map hp =>
      have hg : (getObj (C.loc b)).run P C.w = .ok (.map en es.length) C.w := by simp only [getObj, Sem.run]; rw [hh]
      rcases keyK_some h3 with ⟨i, hfk, h4⟩ | ⟨hfk, h4⟩
      · obtain ⟨q, hq, hrq⟩ := findKey_sound hE hk C.w hr hfit hfk
        obtain ⟨n, en', hin, hen, rfl⟩ := hq
        rw [Nat.zero_add] at hin; subst hin
        unfold valAtK at h4
        split at h4
        · rename_i k' v hes
          have hrv := (hr.2 i en' _ hen hes).2
          have hrun : (Instr.lookup t (.map (some (C.loc b))) kv ok).run P C.w = .ok (if ok then .tuple #[en'.val, .bool true] else en'.val) C.w := by
            simp [Instr.lookup, run_underlying hd, hg, keyFit_sound hE hk hfit, hrq]
          split at h4
          · exact ⟨_, _, hrun, tup hrv, h4⟩
          · exact ⟨_, _, hrun, hrv, h4⟩
        · cases h4
      · obtain ⟨q, hq, hrq⟩ := findKey_sound hE hk C.w hr hfit hfk
        have hq' : q = none := hq
        subst hq'
        have hrun : (Instr.lookup t (.map (some (C.loc b))) kv ok).run P C.w = .ok (if ok then .tuple #[z, .bool false] else z) C.w := by
          simp [Instr.lookup, run_underlying hd, hg, keyFit_sound hE hk hfit, hrq, run_zeroValue hj hz1]
        split at h4
        · exact ⟨_, _, hrun, tup hzr, h4⟩
        · exact ⟨_, _, hrun, hzr, h4⟩
end
end Go.Tv

/- Maps are written; new maps, new slices. -/
namespace Go.Tv
open Go Go.RowKit

section
variable {P : Program} {E : Env} {C D : Ctx}

theorem RepE.get {en : Array MapEntry} {es : List (TV × TV)} (h : RepE C en.toList es) {i : Nat} {kv : TV × TV} (hi : es[i]? = some kv) : ∃ e, en[i]? = some e ∧ Rep C e.key kv.1 ∧ Rep C e.val kv.2 := by
  have hlt : i < en.toList.length := by rw [h.1]; exact (List.getElem?_eq_some_iff.1 hi).1
  have he : en.toList[i]? = some (en.toList[i]) := List.getElem?_eq_getElem hlt
  refine ⟨en.toList[i], by rw [← he]; simp, h.2 i _ kv he hi⟩

theorem RepE.modify {en : Array MapEntry} {es : List (TV × TV)} (h : RepE C en.toList es) {i : Nat} {f : MapEntry → MapEntry} {kv : TV × TV} (hf : ∀ e, en[i]? = some e → Rep C (f e).key kv.1 ∧ Rep C (f e).val kv.2) :
    RepE C (en.modify i f).toList (es.set i kv) := by
  refine ⟨by have := h.1; simp at this ⊢; exact this, fun n e kv' h1 h2 => ?_⟩
  rw [Array.getElem?_toList, Array.getElem?_modify] at h1
  split at h1
  · rename_i hin
    subst hin
    obtain ⟨e0, he0, rfl⟩ := Option.map_eq_some_iff.1 h1
    have hlt : i < es.length := by
      rw [← h.1, Array.length_toList]; exact (Array.getElem?_eq_some_iff.1 he0).1
    rw [List.getElem?_set_self hlt] at h2
    cases h2
    exact hf e0 he0
  · rename_i hin
    rw [List.getElem?_set_ne hin] at h2
    exact h.2 n e kv' (by rw [Array.getElem?_toList]; exact h1) h2

theorem born_modify {en : Array MapEntry} {i : Nat} {f : MapEntry → MapEntry} (hb : ∀ (i : Nat) (e : MapEntry), en[i]? = some e → e.born = i) (hf : ∀ e, (f e).born = e.born) :
    ∀ (n : Nat) (e : MapEntry), (en.modify i f)[n]? = some e → e.born = n := by
  intro n e h
  rw [Array.getElem?_modify] at h
  split at h
  · obtain ⟨e0, he0, rfl⟩ := Option.map_eq_some_iff.1 h
    rw [hf]; exact hb n e0 he0
  · exact hb n e h

theorem RepE.push {en : Array MapEntry} {es : List (TV × TV)} (h : RepE C en.toList es) {e : MapEntry} {kv : TV × TV} (hk : Rep C e.key kv.1) (hv : Rep C e.val kv.2) : RepE C (en.push e).toList (es ++ [kv]) := by
  refine ⟨by have := h.1; simp at this ⊢; exact this, fun n e' kv' h1 h2 => ?_⟩
  rw [Array.toList_push] at h1
  rcases Nat.lt_or_ge n en.toList.length with hn | hn
  · rw [List.getElem?_append_left hn] at h1
    rw [List.getElem?_append_left (by rw [← h.1]; exact hn)] at h2
    exact h.2 n e' kv' h1 h2
  · rw [List.getElem?_append_right hn] at h1
    rw [List.getElem?_append_right (by rw [← h.1]; exact hn), ← h.1] at h2
    have h0 : n - en.toList.length = 0 := by
      have := (List.getElem?_eq_some_iff.1 h1).1
      simp at this; simpa using this
    rw [h0] at h1 h2
    cases h1; cases h2
    exact ⟨hk, hv⟩

theorem born_push {en : Array MapEntry} {e : MapEntry} (hb : ∀ (i : Nat) (e : MapEntry), en[i]? = some e → e.born = i) (he : e.born = en.size) : ∀ (n : Nat) (e' : MapEntry), (en.push e)[n]? = some e' → e'.born = n := by
  intro n e' h
  rw [Array.getElem?_push] at h
  split at h
  · rename_i hn; cases h; omega
  · exact hb n e' h

/-- What an act that gives nothing gives. -/
def Does {R : Type} (P : Program) (E : Env) (C : Ctx) (σ : St) (run : Result Unit) (K : St → Option R) (r : R) : Prop :=
  ∃ D σ', run = .ok () D.w ∧ Adv C D ∧ Ok P E D ∧ D.ents = σ'.ents ∧ Tame σ σ' ∧ K σ' = some r

theorem keyAtK_some {R : Type} {es : List (TV × TV)} {i : Nat} {k : TV} {K : TV → Option R} {r : R} (h : keyAtK es i k K = some r) : ∃ j v, es[i]? = some (j, v) ∧ sameKey j k = true ∧ K v = some r := by
  unfold keyAtK at h
  split at h
  · obtain ⟨h1, h2⟩ := tst_none h
    exact ⟨_, _, by assumption, h1, h2⟩
  · cases h

theorem keyFit_refs {lk : Option Lay} {k : TV} (h : keyFit E lk k = true) : k.refs = 0 := by
  unfold keyFit at h
  split at h
  · split at h
    · rfl
    · simp only [Bool.and_eq_true] at h
      exact flat_refsL h.1.2
    · cases h
  · cases h

theorem ofVal_refs (v : Value) : (ofVal v).refs = 0 := by
  have h1 : ∀ v, (ofVal1 v).refs = 0 := by
    intro v
    unfold ofVal1
    split <;> simp [TV.refs]
  unfold ofVal
  split
  · rename_i cs
    show TV.refsL _ = 0
    rw [refsL_zero]
    intro v hv
    obtain ⟨u, _, rfl⟩ := List.mem_map.1 hv
    exact h1 u
  · exact h1 _

theorem refsE_get : ∀ {es : List (TV × TV)} {i : Nat} {kv : TV × TV}, es[i]? = some kv → max kv.1.refs kv.2.refs ≤ refsE es
  | (k, v) :: es, 0, kv, h => by
    simp at h; subst h; simp only [refsE]; omega
  | (k, v) :: es, i + 1, kv, h => by
    have := refsE_get (es := es) (i := i) (by simpa using h)
    simp only [refsE]; omega

theorem mapUpdateK_sound {R : Type} (hE : EnvOk0 P E) {σ : St} (hok : Ok P E C) (hc : C.ents = σ.ents) {t : TypeId} {m k v : TV} {mv kv vv : Value} {K : St → Option R} {r : R} (hm : Rep C mv m) (hk : Rep C kv k) (hv : Rep C vv v)
    (h : mapUpdateK E σ t m k v K = some r) : Does P E C σ ((Instr.mapUpdate t mv kv vv).run P C.w) K r := by
  obtain ⟨l, hl, h1⟩ := layK_some h
  obtain ⟨i, hi, hd, _, _, _, _, helt, _, _, _, hkey, _⟩ := layOf_facts (hE.lay _ _ hl)
  obtain ⟨hf, h2⟩ := tst_none h1
  simp only [Bool.and_eq_true] at hf
  obtain ⟨⟨hmd, hfit⟩, hzk⟩ := hf
  obtain ⟨kt, e, hu⟩ := isMapD_some hmd
  rw [hu] at hd
  rw [hkey kt e hu] at hfit h2
  clear h h1
  obtain ⟨C1, v1, σ1, hadv1, hok1, hw1, hents1, hdefs1, hv1, h3⟩ := freezeK_sound v hok hc hv h2
  have hm1 := hadv1.rep _ _ hm
  have hk1 := hadv1.rep _ _ hk
  rw [← hw1]
  obtain ⟨b, t', es, rfl, he, h4⟩ := mapK_some h3
  obtain ⟨en, he', _, hh, hr, hb⟩ := map_ent hok1 hents1 he
  have hfc := keyFit_sound hE hk1 hfit
  cases hm1 with
  | map hp =>
    have hg : (getObj (C1.loc b)).run P C1.w = .ok (.map en es.length) C1.w := by simp only [getObj, Sem.run]; rw [hh]
    rcases keyK_some h4 with ⟨i, hfk, h5⟩ | ⟨hfk, h5⟩
    · obtain ⟨q, hq, hrq⟩ := findKey_sound hE hk1 C1.w hr hfit hfk
      obtain ⟨n, en', hin, hen, rfl⟩ := hq
      rw [Nat.zero_add] at hin; subst hin
      obtain ⟨j, v0, hes, hsame, h6⟩ := keyAtK_some h5
      have hj := (hr.2 i en' _ hen hes).1
      have hks := keyStays_sound (P := P) hsame hj hk1
      have hen' : en[i]? = some en' := by rw [← hen]; simp
      obtain ⟨hadv, hok'⟩ := map_ok hok1 he' hh (fun _ _ _ h => nomatch h) (en' := en.modify i fun e => { e with key := kv, val := vv }) (es' := es.set i (k, v1)) (hr.modify fun e0 he0 => ⟨hk1, hv1⟩) (born_modify hb fun _ => rfl)
      refine ⟨_, _, ?_, hadv1.trans hadv, hok', ?_, ?_, h6⟩
      · have hset : (setObj (C1.loc b) (.map (en.modify i fun e => { e with key := kv, val := vv }) es.length)).run P C1.w = .ok () { C1.w with heap := C1.w.heap.setIfInBounds (C1.loc b) (.map (en.modify i fun e => { e with key := kv, val := vv }) es.length) } := MapKept.run_setObj_map _ hh
        simp [Instr.mapUpdate, run_underlying hd, hg, hfc, hrq, hen', hks, hset]
        simp [Ctx.setObj]
      · show C1.ents.set b _ = σ1.ents.set b _
        rw [hents1]
      · refine hdefs1.trans (Tame.set he fun hesc => ?_)
        obtain ⟨h7, h8⟩ := ble_false_or hesc
        refine ⟨h7, fun n hn hle => ?_⟩
        have h9 := refsE_set es i k v1
        have h10 := keyFit_refs hfit
        have hle' : refsE es ≤ n := hle
        show refsE (es.set i (k, v1)) ≤ n
        omega
    · obtain ⟨q, hq, hrq⟩ := findKey_sound hE hk1 C1.w hr hfit hfk
      have hq' : q = none := hq
      subst hq'
      have hsz : en.size = es.length := by rw [← Array.length_toList]; exact hr.1
      obtain ⟨hadv, hok'⟩ := map_ok hok1 he' hh (fun _ _ _ h => nomatch h) (en' := en.push { key := kv, val := vv, born := es.length }) (es' := es ++ [(k, v1)]) (hr.push hk1 hv1) (born_push hb hsz.symm)
      refine ⟨_, _, ?_, hadv1.trans hadv, hok', ?_, ?_, h5⟩
      · have hset : (setObj (C1.loc b) (.map (en.push { key := kv, val := vv, born := es.length }) (es.length + 1))).run P C1.w = .ok () { C1.w with heap := C1.w.heap.setIfInBounds (C1.loc b) (.map (en.push { key := kv, val := vv, born := es.length }) (es.length + 1)) } := MapKept.run_setObj_map _ hh
        simp [Instr.mapUpdate, run_underlying hd, hg, hfc, hrq, hset]
        simp [Ctx.setObj]
      · show C1.ents.set b _ = σ1.ents.set b _
        rw [hents1]
      · refine hdefs1.trans (Tame.set he fun hesc => ?_)
        obtain ⟨h7, h8⟩ := ble_false_or hesc
        refine ⟨h7, fun n hn hle => ?_⟩
        have h9 := refsE_append es [(k, v1)]
        have h10 := keyFit_refs hfit
        have hle' : refsE es ≤ n := hle
        show refsE (es ++ [(k, v1)]) ≤ n
        simp only [refsE] at h9
        omega

theorem mapEntryK_sound {R : Type} (hE : EnvOk0 P E) {σ : St} (hok : Ok P E C) (hc : C.ents = σ.ents) {t : TypeId} {m k : TV} {mv kv : Value} {K : TV → St → Option R} {r : R} (hm : Rep C mv m) (hk : Rep C kv k)
    (h : mapEntryK E σ t m k K = some r) : Gives P E C σ ((Instr.mapEntry t mv kv).run P C.w) K r := by
  obtain ⟨l, hl, h1⟩ := layK_some h
  obtain ⟨i, hi, hd, _, _, _, _, helt, _, _, _, hkey, _⟩ := layOf_facts (hE.lay _ _ hl)
  obtain ⟨hf, h2⟩ := tst_none h1
  simp only [Bool.and_eq_true] at hf
  obtain ⟨⟨hmd, hfit⟩, hzk⟩ := hf
  obtain ⟨kt, e, hu⟩ := isMapD_some hmd
  rw [hu] at hd
  obtain ⟨j, d, hj, hdj, _, _, _, _, hez, _⟩ := helt e (by rw [hu]; rfl)
  rw [hkey kt e hu] at hfit h2
  rw [hez] at hzk h2
  obtain ⟨z, hz1, hz2⟩ := zeroT_known hzk
  rw [hz2] at h2
  have hzr := rep_ofVal C z
  clear h h1
  obtain ⟨b, t', es, rfl, he, h4⟩ := mapK_some h2
  obtain ⟨en, he', _, hh, hr, hb⟩ := map_ent hok hc he
  have hfc := keyFit_sound hE hk hfit
  cases hm with
  | map hp =>
    have hg : (getObj (C.loc b)).run P C.w = .ok (.map en es.length) C.w := by simp only [getObj, Sem.run]; rw [hh]
    rcases keyK_some h4 with ⟨i, hfk, h5⟩ | ⟨hfk, h5⟩
    · obtain ⟨q, hq, hrq⟩ := findKey_sound hE hk C.w hr hfit hfk
      obtain ⟨n, en', hin, hen, rfl⟩ := hq
      rw [Nat.zero_add] at hin; subst hin
      obtain ⟨j, v0, hes, hsame, h6⟩ := keyAtK_some h5
      have hrj := hr.2 i en' _ hen hes
      have hks := keyStays_sound (P := P) hsame hrj.1 hk
      have hen' : en[i]? = some en' := by rw [← hen]; simp
      have hborn := hb i en' hen'
      obtain ⟨hadv, hok'⟩ := map_ok hok he' hh (fun _ _ _ h => nomatch h) (en' := en.modify i fun e => { e with key := kv }) (es' := es.set i (k, v0)) (hr.modify fun e0 he0 => ⟨hk, by rw [hen'] at he0; cases he0; exact hrj.2⟩) (born_modify hb fun _ => rfl)
      refine ⟨_, .tuple #[en'.val, .int .i64 i], _, _, ?_, hadv, hok', ?_, ?_, Rep.mkTuple (RepL.cons (hadv.rep _ _ hrj.2) (RepL.cons (.int _ _) RepL.nil)), h6⟩
      · have hset : (setObj (C.loc b) (.map (en.modify i fun e => { e with key := kv }) es.length)).run P C.w = .ok () { C.w with heap := C.w.heap.setIfInBounds (C.loc b) (.map (en.modify i fun e => { e with key := kv }) es.length) } := MapKept.run_setObj_map _ hh
        simp [Instr.mapEntry, run_underlying hd, hg, hfc, hrq, hen', hks, hset, hborn, goInt]
        simp [Ctx.setObj]
      · show C.ents.set b _ = σ.ents.set b _
        rw [hc]
      · refine Tame.set (b := σ.esc) he fun hesc => ⟨hesc, fun n hn hle => ?_⟩
        have h9 := refsE_set es i k v0
        have h10 := keyFit_refs hfit
        have h11 := refsE_get hes
        have hle' : refsE es ≤ n := hle
        show refsE (es.set i (k, v0)) ≤ n
        simp only at h11
        omega
    · obtain ⟨q, hq, hrq⟩ := findKey_sound hE hk C.w hr hfit hfk
      have hq' : q = none := hq
      subst hq'
      have hsz : en.size = es.length := by rw [← Array.length_toList]; exact hr.1
      obtain ⟨hadv, hok'⟩ := map_ok hok he' hh (fun _ _ _ h => nomatch h) (en' := en.push { key := kv, val := z, born := es.length }) (es' := es ++ [(k, ofVal z)]) (hr.push hk hzr) (born_push hb hsz.symm)
      refine ⟨_, .tuple #[z, .int .i64 es.length], _, _, ?_, hadv, hok', ?_, ?_, Rep.mkTuple (RepL.cons (hadv.rep _ _ hzr) (RepL.cons (.int _ _) RepL.nil)), h5⟩
      · have hset : (setObj (C.loc b) (.map (en.push { key := kv, val := z, born := es.length }) (es.length + 1))).run P C.w = .ok () { C.w with heap := C.w.heap.setIfInBounds (C.loc b) (.map (en.push { key := kv, val := z, born := es.length }) (es.length + 1)) } := MapKept.run_setObj_map _ hh
        simp [Instr.mapEntry, run_underlying hd, hg, hfc, hrq, hset, run_zeroValue hj hz1, goInt]
        simp [Ctx.setObj]
      · show C.ents.set b _ = σ.ents.set b _
        rw [hc]
      · refine Tame.set (b := σ.esc) he fun hesc => ⟨hesc, fun n hn hle => ?_⟩
        have h9 := refsE_append es [(k, ofVal z)]
        have h10 := keyFit_refs hfit
        have h11 := ofVal_refs z
        have hle' : refsE es ≤ n := hle
        show refsE (es ++ [(k, ofVal z)]) ≤ n
        simp only [refsE] at h9
        omega

theorem findIdx_born {en : List MapEntry} : ∀ (s i : Nat) (e : MapEntry), (∀ (n : Nat) (e : MapEntry), en[n]? = some e → e.born = s + n) → en[i]? = some e → en.findIdx? (fun e => (e.born : Int) == ((s + i : Nat) : Int)) = some i := by
  induction en with
  | nil => intro s i e _ h; simp at h
  | cons x en ih =>
    intro s i e hb h
    have h0 := hb 0 x rfl
    cases i with
    | zero =>
      rw [List.findIdx?_cons]
      simp [h0]
    | succ i =>
      rw [List.findIdx?_cons]
      have hne : ((x.born : Int) == ((s + (i + 1) : Nat) : Int)) = false := by
        rw [beq_eq_false_iff_ne]; omega
      rw [hne]
      have := ih (s + 1) i e (fun n e' h' => by have := hb (n + 1) e' (by simpa using h'); omega) (by simpa using h)
      rw [show s + 1 + i = s + (i + 1) by omega] at this
      simp only [Bool.false_eq_true, if_false]
      rw [this]; rfl

theorem entryStoreK_sound {R : Type} {σ : St} (hok : Ok P E C) (hc : C.ents = σ.ents) {t : TypeId} {m st v : TV} {mv sv vv : Value} {K : St → Option R} {r : R} (hm : Rep C mv m) (hs : Rep C sv st) (hv : Rep C vv v)
    (h : entryStoreK σ m st v K = some r) : Does P E C σ ((Instr.entryStore t mv sv vv).run P C.w) K r := by
  unfold entryStoreK at h
  split at h
  · rename_i k i
    cases hs
    obtain ⟨hi, h2⟩ := tst_none h
    have hi' := of_decide_eq_true hi
    obtain ⟨C1, v1, σ1, hadv1, hok1, hw1, hents1, hdefs1, hv1, h3⟩ := freezeK_sound v hok hc hv h2
    have hm1 := hadv1.rep _ _ hm
    rw [← hw1]
    obtain ⟨b, t', es, rfl, he, h4⟩ := mapK_some h3
    obtain ⟨en, he', _, hh, hr, hb⟩ := map_ent hok1 hents1 he
    cases hm1 with
    | map hp =>
      split at h4
      · rename_i kk v0 hes
        obtain ⟨e0, he0, hk0, _⟩ := hr.get hes
        have hg : (getObj (C1.loc b)).run P C1.w = .ok (.map en es.length) C1.w := by simp only [getObj, Sem.run]; rw [hh]
        obtain ⟨hadv, hok'⟩ := map_ok hok1 he' hh (fun _ _ _ h => nomatch h) (en' := en.modify i.toNat fun e => { e with val := vv }) (es' := es.set i.toNat (kk, v1)) (hr.modify fun e1 he1 => ⟨by rw [he0] at he1; cases he1; exact hk0, hv1⟩) (born_modify hb fun _ => rfl)
        have hfi : en.findIdx? (fun e => (e.born : Int) == i) = some i.toNat := by
          have := findIdx_born (en := en.toList) 0 i.toNat e0 (fun n e h => by rw [Nat.zero_add]; exact hb n e (by rw [← h]; simp)) (by rw [← he0]; simp)
          rw [Nat.zero_add, Int.toNat_of_nonneg hi'] at this
          rw [← this]; cases en; simp
        refine ⟨_, _, ?_, hadv1.trans hadv, hok', ?_, ?_, h4⟩
        · have hset : (setObj (C1.loc b) (.map (en.modify i.toNat fun e => { e with val := vv }) es.length)).run P C1.w = .ok () { C1.w with heap := C1.w.heap.setIfInBounds (C1.loc b) (.map (en.modify i.toNat fun e => { e with val := vv }) es.length) } := MapKept.run_setObj_map _ hh
          simp only [Instr.entryStore, Sem.run_bind, hg, Result.andThen_ok, asInt, asIntOf, Sem.run_pure, hfi]
          have hl : (es.set i.toNat (kk, v1)).length = es.length := by simp
          rw [hl]
          exact hset
        · show C1.ents.set b _ = σ1.ents.set b _
          rw [hents1]
        · refine hdefs1.trans (Tame.set he fun hesc => ?_)
          obtain ⟨h7, h8⟩ := ble_false_or hesc
          refine ⟨h7, fun n hn hle => ?_⟩
          have h9 := refsE_set es i.toNat kk v1
          have h11 := refsE_get hes
          have hle' : refsE es ≤ n := hle
          show refsE (es.set i.toNat (kk, v1)) ≤ n
          simp only at h11
          omega
      · cases h4
  · cases h

theorem newMap_ok (hok : Ok P E C) {σ : St} (hc : C.ents = σ.ents) (t : TypeId) :
    ∃ D, C.w.alloc (.map #[] 0) = D.w ∧ Adv C D ∧ Ok P E D ∧ D.ents = (σ.add (.map t [])).ents ∧ Rep D (.map (some C.w.heap.size)) (.map σ.ents.length) := by
  have hg := grew_add C (.map #[] 0) (.map t []) 0 0
  have ho : Ok P E (C.add (.map #[] 0) (.map t []) 0 0) := by
    refine ok_add hok _ _ _ _ ⟨?_, #[], ?_, rfl, fun i e kv h => by simp at h⟩
    · rw [add_loc, add_fz]
    · rw [add_loc, add_heap]; rfl
  refine ⟨_, rfl, hg.adv hok, ho, by simp [Ctx.add, St.add, hc], ?_⟩
  have hp : (C.add (.map #[] 0) (.map t []) 0 0).plain C.ents.length := add_plain (fun _ _ _ h => nomatch h)
  have := Rep.map hp
  rw [add_loc] at this
  rw [← hc]; exact this

theorem makeMapK_sound {R : Type} (hE : EnvOk0 P E) {σ : St} (hok : Ok P E C) (hc : C.ents = σ.ents) {t : TypeId} {x : Option TV} {vx : Option Value} {K : TV → St → Option R} {r : R} (hx : RepO C vx x)
    (h : makeMapK E σ t x K = some r) : Gives P E C σ ((Instr.makeMap t vx).run P C.w) K r := by
  unfold makeMapK at h
  obtain ⟨D, hrun, ha, ho, he, hr⟩ := newMap_ok (t := t) hok hc
  split at h
  · cases vx with
    | some _ => exact absurd hx (by simp [RepO])
    | none => exact ⟨D, _, _, _, by simp [Instr.makeMap, hrun], ha, ho, he, Tame.add _ _, hr, h⟩
  · obtain ⟨l, hl, h1⟩ := layK_some h
    obtain ⟨i, hi, hd, _⟩ := layOf_facts (hE.lay _ _ hl)
    obtain ⟨hm, h2⟩ := tst_none h1
    obtain ⟨kt, e, hu⟩ := isMapD_some hm
    rw [hu] at hd
    cases vx with
    | none => exact absurd hx (by simp [RepO])
    | some v =>
      have hx' : Rep C v (.int _ _) := hx
      cases hx'
      exact ⟨D, _, _, _, by simp [Instr.makeMap, run_underlying hd, asInt, asIntOf, hrun], ha, ho, he, Tame.add _ _, hr, h2⟩
  · cases h

theorem wrap_i64 {n : Int} (h0 : 0 ≤ n) (h1 : n ≤ 281474976710656) : IntKind.i64.wrap n = n := by
  simp only [IntKind.wrap, IntKind.bits, IntKind.signed]
  simp
  omega

theorem makeSliceK_sound {R : Type} (hE : EnvOk0 P E) {σ : St} (hok : Ok P E C) (hc : C.ents = σ.ents) {t : TypeId} {n c : TV} {nv cv : Value} {K : TV → St → Option R} {r : R} (hn : Rep C nv n) (hcv : Rep C cv c)
    (h : makeSliceK E σ t n c K = some r) : Gives P E C σ ((Instr.makeSlice t nv cv).run P C.w) K r := by
  obtain ⟨l, hl, h1⟩ := layK_some h
  obtain ⟨ti, hti, hd, _, _, _, _, helt, _⟩ := layOf_facts (hE.lay _ _ hl)
  split at h1
  · rename_i e n c hu
    cases hn; cases hcv
    rw [hu] at hd
    obtain ⟨i, de, hi, hde, helt', hesz, heb, heag, hez, _⟩ := helt e (by rw [hu]; rfl)
    obtain ⟨hb, h2⟩ := tst_none h1
    simp only [Bool.and_eq_true, decide_eq_true_eq] at hb
    obtain ⟨⟨⟨h0, hnc, hby, hcm⟩, hzk⟩, hzl⟩ := hb
    have hzl' := Nat.eq_of_beq_eq_true hzl
    rw [hez] at hzk hzl'
    obtain ⟨z, hz1, hz2⟩ := zeroT_known hzk
    rw [hz2] at hzk hzl'
    have hzr := (rep_ofVal C z).cells hzk
    have hzs : z.cells.size = l.esz := by
      have := hzr.1
      rw [Array.length_toList] at this
      omega
    have hwn : IntKind.i64.wrap n = n := wrap_i64 h0 (by omega)
    have hwc : IntKind.i64.wrap c = c := wrap_i64 (by omega) hcm
    have hrow : ((Array.range (c.toNat * i.size)).map fun k => (if c.toNat * i.size = 0 then (#[] : Array Value) else z.cells)[k % (if c.toNat * i.size = 0 then (#[] : Array Value) else z.cells).size]!) = (Array.range (c.toNat * z.cells.size)).map fun k => z.cells[k % z.cells.size]! := by
      rw [hzs, ← hesz]
      split
      · rename_i h00
        rw [h00]; simp
      · rw [hzs]
    have hrun : ∀ row, ((Array.range (c.toNat * z.cells.size)).map fun k => z.cells[k % z.cells.size]!) = row → (Instr.makeSlice t (.int .i64 n) (.int .i64 c)).run P C.w = .ok (.slice (some ⟨C.w.heap.size, 0, none⟩) n.toNat c.toNat) (C.w.alloc (.cells row e)) := by
      intro row hrow'
      rw [← hrow', ← hrow]
      have g1 : ¬ c < 0 := by omega
      have g2 : ¬ (281474976710656 < (i.bytes : Int) * c) := by rw [Int.mul_comm, ← heb]; omega
      have g3 : ¬ n < 0 := by omega
      have g4 : ¬ c < n := by omega
      simp [Instr.makeSlice, run_underlying hd, asInt, asIntOf, typeInfo, sizeOf, zeroValue, hi, hz1, hwn, hwc, g1, g2, g3, g4, newRow]
      split <;> simp_all
    have hrr := range_map_repl z.cells hzr c.toNat
    rcases tst_some h2 with ⟨hz0, h3⟩ | ⟨hz0, h3⟩
    · have hn0 := of_decide_eq_true hz0
      subst hn0
      have hrs : ((Array.range (c.toNat * z.cells.size)).map fun k => z.cells[k % z.cells.size]!).size = c.toNat * l.esz := by simp [hzs]
      generalize hrow' : ((Array.range (c.toNat * z.cells.size)).map fun k => z.cells[k % z.cells.size]!) = row at hrs hrun
      have hg := grew_add C (.cells row e) (.tok 0 false l.esz) 0 0
      have ho : Ok P E (C.add (.cells row e) (.tok 0 false l.esz) 0 0) := by
        refine ok_add hok _ _ _ _ ⟨⟨row, e, 0, 0, ?_, .inr (.inl rfl)⟩, fun _ => ?_, ?_, fun h => nomatch h⟩
        · rw [add_loc, add_heap]
        · rw [add_loc, add_fz]
        · rw [add_loc, add_fz]; exact Nat.zero_le _
      refine ⟨_, _, _, σ.add (.tok 0 false l.esz), hrun row rfl, hg.adv hok, ho, by simp [Ctx.add, St.add, hc], Tame.add _ _, ?_, h3⟩
      have hlen0 : σ.ents.length = C.ents.length := by rw [hc]
      rw [hlen0]
      have htD : (C.add (.cells row e) (.tok 0 false l.esz) 0 0).tok C.ents.length 0 false l.esz := by
        show (C.ents ++ [_])[C.ents.length]? = _
        simp
      have hloc : (C.add (.cells row e) (.tok 0 false l.esz) 0 0).loc C.ents.length = C.w.heap.size := add_loc _ _ _ _
      have hheap : (C.add (.cells row e) (.tok 0 false l.esz) 0 0).w.heap[C.w.heap.size]? = some (.cells row e (0, 0)) := add_heap _ _ _ _
      have hfe : (C.add (.cells row e) (.tok 0 false l.esz) 0 0).fe C.ents.length = 0 := add_fe _ _ _ _
      generalize (C.add (.cells row e) (.tok 0 false l.esz) 0 0) = D at *
      refine Rep.ofRow (es := []) (sz := l.esz) hheap (fun e' he' => nomatch he') (fun a b e' c he' => by simp at he') (Nat.zero_le _) ?_
      rw [← hloc]
      refine slAt_tok htD ?_ ⟨_, e, (0, 0), by rw [hloc]; exact hheap, by rw [hrs]; omega⟩ (fun hp => nomatch hp)
      rw [hfe]; simp
    · obtain ⟨hnc', h4⟩ := tst_none h3
      have hnc2 := of_decide_eq_true hnc'
      subst hnc2
      generalize hrow' : ((Array.range (n.toNat * z.cells.size)).map fun k => z.cells[k % z.cells.size]!) = row at hrr hrun
      rw [hez, hz2] at h4
      have hg := grew_add C (.cells row e) (.box l.elt (repl n.toNat (ofVal z).cells)) 0 0
      have ho : Ok P E (C.add (.cells row e) (.box l.elt (repl n.toNat (ofVal z).cells)) 0 0) := by
        refine ok_add hok _ _ _ _ ⟨?_, row, 0, 0, ?_, .inl rfl, hrr.ext (hg.ext hok)⟩
        · rw [add_loc, add_fz]
        · rw [add_loc, add_heap, helt']
      refine ⟨_, _, _, σ.add (.box l.elt (repl n.toNat (ofVal z).cells)), hrun row rfl, hg.adv hok, ho, by simp [Ctx.add, St.add, hc], Tame.add _ _, ?_, h4⟩
      have hp : (C.add (.cells row e) (.box l.elt (repl n.toNat (ofVal z).cells)) 0 0).plain C.ents.length := add_plain (fun _ _ _ h => nomatch h)
      have := Rep.bsl (off := 0) (off' := 0) (len := n.toNat) (cap := n.toNat) (sz := l.esz) (ag := l.eagg) hp (Nat.le_refl _) (fun _ => rfl)
      rw [add_loc] at this
      rw [← hc]; exact this
  · cases h1
end
end Go.Tv

/- Operations that call nothing. -/
namespace Go.Tv
open Go Go.RowKit

section
variable {P : Program} {E : Env} {C D : Ctx}

/-- What an operation gives. -/
def OpGives {R : Type} (P : Program) (E : Env) (C : Ctx) (σ : St) (run : Result Next) (K KP : TV → St → Option R) (r : R) : Prop :=
  (∃ D val v σ', (run = .ok (.value val) D.w ∨ (run = .ok .skip D.w ∧ val = Go.undef)) ∧ Adv C D ∧ Ok P E D ∧ D.ents = σ'.ents ∧ Tame σ σ' ∧ Rep D val v ∧ K v σ' = some r) ∨
  (∃ val v, run = .halt (.panic val) C.w ∧ Rep C val v ∧ KP v σ = some r)

theorem OpGives.of {R : Type} {σ : St} {s : Sem Value} {K KP : TV → St → Option R} {r : R} (h : Gives P E C σ (s.run P C.w) K r) :
    OpGives P E C σ ((do pure (.value (← s)) : Sem Next).run P C.w) K KP r := by
  obtain ⟨D, val, v, σ', h1, h2, h3, h4, h5, h6, h7⟩ := h
  refine .inl ⟨D, val, v, σ', .inl ?_, h2, h3, h4, h5, h6, h7⟩
  simp only [Sem.run_bind, h1, Result.andThen_ok, Sem.run_pure]

theorem gives_stay {R : Type} {σ : St} (hok : Ok P E C) (hc : C.ents = σ.ents) {run : Result Value} {K : TV → St → Option R} {r : R} (h : ∃ val v, run = .ok val C.w ∧ Rep C val v ∧ K v σ = some r) :
    Gives P E C σ run K r := by
  obtain ⟨val, v, h1, h2, h3⟩ := h
  exact ⟨C, val, v, σ, h1, Adv.refl C, hok, hc, Tame.refl σ, h2, h3⟩

theorem gives_pure {R : Type} {σ : St} (hok : Ok P E C) (hc : C.ents = σ.ents) {val : Value} {v : TV} {K KP : TV → St → Option R} {r : R} (hr : Rep C val v) (h : K v σ = some r) :
    OpGives P E C σ ((pure (.value val) : Sem Next).run P C.w) K KP r :=
  .inl ⟨C, val, v, σ, .inl rfl, Adv.refl C, hok, hc, Tame.refl σ, hr, h⟩

theorem gives_skip {R : Type} {σ : St} {s : Sem Unit} {K : St → Option R} {K' KP : TV → St → Option R} {r : R} (h : Does P E C σ (s.run P C.w) K r) (hK : ∀ σ, K' .undef σ = K σ) :
    OpGives P E C σ ((do s; pure .skip : Sem Next).run P C.w) K' KP r := by
  obtain ⟨D, σ', h1, h2, h3, h4, h5, h6⟩ := h
  refine .inl ⟨D, Go.undef, .undef, σ', .inr ⟨?_, rfl⟩, h2, h3, h4, h5, .undef _, by rw [hK]; exact h6⟩
  simp only [Sem.run_bind, h1, Result.andThen_ok, Sem.run_pure]

theorem does_store {R : Type} {σ : St} {run : Result Unit} {K : St → Option R} {r : R} (h : ∃ D σ', run = .ok () D.w ∧ Adv C D ∧ Ok P E D ∧ D.ents = σ'.ents ∧ Tame σ σ' ∧ K σ' = some r) : Does P E C σ run K r := h

theorem rep_optOpd {a : Act} {fr : Tr TV} (hg : GOk E C) (hf : FrOk C a fr) (x : Option Operand) : RepO C (x.map a.eval) (optOpd E fr x) := by
  cases x with
  | none => trivial
  | some x => exact rep_opd hg hf x

/-- operations that call no function -/
def plainOp : Op → Bool
  | .call { callee := .value _, .. } | .defer _ => false
  | _ => true

theorem makeSlice_ex_aux {l : Lay} {n : Nat} {cs : List TV} (h : fitK l.eagg 0 n l.esz cs = true) : n * l.esz ≤ cs.length := by
  unfold fitK at h
  simp only [Bool.and_eq_true] at h
  have := Nat.le_of_ble_eq_true h.1.2
  omega

theorem buildSlice_sound {R : Type} (hE : EnvOk0 P E) {σ : St} (hok : Ok P E C) (hc : C.ents = σ.ents) {t : TypeId} {l : Lay} {e : TypeId} (hl : E.lay t = some l) (hu : l.und = .slice e)
    (hk : l.ezero.known = true) (hzl : l.ezero.cells.length = l.esz) {n : Nat} (hn : n * l.esz ≤ 16777216) {d : Bool} {ps : Array (Nat × Value)} {qs : List (Nat × TV)} (hq : RepP C ps.toList qs) {K : TV → St → Option R} {r : R}
    (h : buildK (eltPlace l) qs (repl n l.ezero.cells) (fun cs =>
        match l.eflat with
        | true =>
          tst (fitK l.eagg 0 n l.esz cs) (K (.slice .ex (chunks l.eagg l.esz n cs)) σ) (
            match d with
            | true => none
            | false => freezeLK cs σ fun cs σ => tst (fitK l.eagg 0 n l.esz cs) (K (.slice .ex (chunks l.eagg l.esz n cs)) σ) none)
        | false => K (.bsl σ.ents.length 0 n l.esz l.eagg) (σ.add (.box l.elt cs))) = some r) :
    Gives P E C σ ((Instr.buildSlice t n ps).run P C.w) K r := by
  obtain ⟨cells, cs, hrun, hrep, hlen, helt, h2⟩ := buildSlice_run hE hl hu hk hzl hn hq h
  have exCase : ∀ (C1 : Ctx) (cs1 : List TV) (σ1 : St), Adv C C1 → Ok P E C1 → C1.w = C.w → C1.ents = σ1.ents → Tame σ σ1 → RepL C1 cells.toList cs1 → fitK l.eagg 0 n l.esz cs1 = true → K (.slice .ex (chunks l.eagg l.esz n cs1)) σ1 = some r →
      Gives P E C σ ((Instr.buildSlice t n ps).run P C.w) K r := by
    intro C1 cs1 σ1 hadv hok1 hw hents htame hr1 hfit hK
    obtain ⟨hnr, hadv2, hok2, hheap, hfz⟩ := newRow_ok hok1 e cells cs1.length
    have hcs : cells.size = cs1.length := by rw [← Array.length_toList]; exact hr1.1
    rw [hw] at hnr
    refine ⟨_, _, _, σ1, hrun _ _ hnr, hadv.trans hadv2, hok2, hents, htame, ?_, hK⟩
    have h1 : Rep (C1.push (.cells cells e) cs1.length) (.slice (some ⟨C1.w.heap.size, 0, none⟩) n n) (.slice .sh (chunks l.eagg l.esz n (cs1.drop 0))) :=
      Rep.ofIce hheap (hadv2.repL hr1) (by rw [hfz, hcs]; exact Nat.le_refl _) hfit (Nat.le_refl _) (fun _ => rfl)
    rw [List.drop_zero, hw] at h1
    refine h1.toEx ?_
    show C1.base ≤ _
    rw [hadv.base]; exact hok.base
  split at h2
  · rcases tst_some h2 with ⟨hfit, h3⟩ | ⟨_, h3⟩
    · exact exCase C cs σ (Adv.refl C) hok rfl hc (Tame.refl σ) hrep hfit h3
    · split at h3
      · cases h3
      · obtain ⟨C1, cs1, σ1, hadv, hok1, hw, hents, htame, hr1, h4⟩ := freezeLK_sound cs hok hc hrep h3
        obtain ⟨hfit, h5⟩ := tst_none h4
        exact exCase C1 cs1 σ1 hadv hok1 hw hents htame hr1 hfit h5
  · have hg := grew_add C (.cells cells e) (.box l.elt cs) 0 0
    have ho : Ok P E (C.add (.cells cells e) (.box l.elt cs) 0 0) := by
      refine ok_add hok _ _ _ _ ⟨?_, cells, 0, 0, ?_, .inl rfl, hrep.ext (hg.ext hok)⟩
      · rw [add_loc, add_fz]
      · rw [add_loc, add_heap, helt]
    have hnr : (newRow e cells).run P C.w = .ok ⟨C.w.heap.size, 0, none⟩ (C.w.alloc (.cells cells e)) := rfl
    refine ⟨_, _, _, _, hrun _ _ hnr, hg.adv hok, ho, by simp [Ctx.add, St.add, hc], Tame.add _ _, ?_, h2⟩
    have hp : (C.add (.cells cells e) (.box l.elt cs) 0 0).plain C.ents.length := add_plain (fun _ _ _ h => nomatch h)
    have := Rep.bsl (off := 0) (off' := 0) (len := n) (cap := n) (sz := l.esz) (ag := l.eagg) hp (Nat.le_refl _) (fun _ => rfl)
    rw [add_loc] at this
    rw [← hc]; exact this

theorem args1 {a : Act} {fr : Tr TV} {xs : Array Operand} {v : TV} (h : opds E fr xs.toList = [v]) (hg : GOk E C) (hf : FrOk C a fr) : ∃ x, xs.map a.eval = #[x] ∧ Rep C x v := by
  have := rep_opds hg hf xs.toList
  rw [h] at this
  obtain ⟨x, us, h1, h2, h3⟩ := this.cons_inv
  rw [h3.nil_inv] at h1
  refine ⟨x, ?_, h2⟩
  apply Array.ext'
  simpa using h1
theorem args2 {a : Act} {fr : Tr TV} {xs : Array Operand} {u v : TV} (h : opds E fr xs.toList = [u, v]) (hg : GOk E C) (hf : FrOk C a fr) : ∃ x y, xs.map a.eval = #[x, y] ∧ Rep C x u ∧ Rep C y v := by
  have := rep_opds hg hf xs.toList
  rw [h] at this
  obtain ⟨x, us, h1, h2, h3⟩ := this.cons_inv
  obtain ⟨y, us', rfl, h4, h5⟩ := h3.cons_inv
  rw [h5.nil_inv] at h1
  refine ⟨x, y, ?_, h2, h4⟩
  apply Array.ext'
  simpa using h1

theorem arr_of_list {α : Type} {xs : Array α} {l : List α} (h : xs.toList = l) : xs = l.toArray := by
  rw [← h]

theorem maxK_sound {R : Type} {op : Bool} {x y : TV} {a b : Value} {K : TV → Option R} {r : R} (ha : Rep C a x) (hb : Rep C b y) (h : maxK op x y K = some r) (ts : Array TypeId) (ty : TypeId) (w : World) :
    ∃ val v, ((if op then Builtin.max_ ts ty #[a, b] else Builtin.min_ ts ty #[a, b])).run P w = .ok val w ∧ Rep C val v ∧ K v = some r := by
  unfold maxK at h
  split at h
  · rename_i k a j b
    cases ha; cases hb
    split at h
    · cases op with
      | true =>
        refine ⟨.int k (max a b), _, ?_, .int _ _, h⟩
        have : (if b > a then b else a) = max a b := by omega
        simp [Builtin.max_, Builtin.max2, this]
      | false =>
        refine ⟨.int k (min a b), _, ?_, .int _ _, h⟩
        have : (if b < a then b else a) = min a b := by omega
        simp [Builtin.min_, Builtin.min2, this]
    · cases h
  · cases h

theorem parts_toList {a : Act} (ps : Array (Nat × Operand)) : (ps.map fun (i, x) => (i, a.eval x)).toList = ps.toList.map fun p => (p.1, a.eval p.2) := by
  simp

theorem evalOp_plain {R : Type} (hE : EnvOk0 P E) {rec : Rec} {rd d : Bool} {o : Oper} (hp : plainOp o.op = true) {a : Act} {fr : Tr TV} {σ : St} (hok : Ok P E C) (hc : C.ents = σ.ents) (hg : GOk E C) (hf : FrOk C a fr)
    {K KP : TV → St → Option R} {r : R} (h : evalOp E rec rd d o fr σ K KP = some r) : OpGives P E C σ ((execOp a.eval o).run P C.w) K KP r := by
  have O := fun x => rep_opd (a := a) hg hf x
  have stay : ∀ {s : Sem Value} {K0 : TV → Option R}, (∃ val v, s.run P C.w = .ok val C.w ∧ Rep C val v ∧ K0 v = some r) → (∀ v, K0 v = K v σ) → OpGives P E C σ ((do pure (.value (← s)) : Sem Next).run P C.w) K KP r := fun {s} {K0} h hk =>
    OpGives.of (gives_stay hok hc (by obtain ⟨val, v, h1, h2, h3⟩ := h; exact ⟨val, v, h1, h2, by rw [← hk]; exact h3⟩))
  unfold evalOp at h
  split at h
  case h_1 => rename_i x ho; simp only [execOp, ho]; exact gives_pure hok hc (O x) (seeK_some h)
  case h_2 => rename_i x ho; simp only [execOp, ho]; exact gives_pure hok hc (O x) (seeK_some h)
  case h_3 =>
    rename_i c x y ho
    simp only [execOp, ho]
    split at h
    · rename_i t ht
      have hc' := O c
      rw [ht] at hc'
      have hcv : a.eval c = .bool t := by
        generalize a.eval c = val at hc'
        cases hc'; rfl
      rw [hcv]
      cases t
      · have h' : seeK (opd E fr y) (fun v => K v σ) = some r := h
        exact gives_pure hok hc (O y) (seeK_some h')
      · have h' : seeK (opd E fr x) (fun v => K v σ) = some r := h
        exact gives_pure hok hc (O x) (seeK_some h')
    · cases h
  case h_4 =>
    rename_i t ho
    simp only [execOp, ho]
    obtain ⟨l, hl, h1⟩ := layK_some h
    obtain ⟨hk, h2⟩ := tst_none h1
    simp only [Bool.and_eq_true] at hk
    exact OpGives.of (alloc_sound hE hok hc hl hk.1 h2)
  case h_5 =>
    rename_i t x ho
    simp only [execOp, ho]
    have h1 := seeK_some h
    obtain ⟨hk, h2⟩ := tst_none h1
    exact OpGives.of (box_sound hok hc (O x) hk h2)
  case h_6 =>
    rename_i t ps ho
    simp only [execOp, ho]
    obtain ⟨l, hl, h1⟩ := layK_some h
    obtain ⟨hk, h2⟩ := tst_none h1
    have hq := rep_parts hg hf ps.toList
    rw [← parts_toList] at hq
    obtain ⟨cells, cs, h3, h4, h5⟩ := build_sound hE hl hk hq h2
    exact OpGives.of (gives_stay hok hc ⟨_, _, h3, Rep.agg_iff.2 h4, h5⟩)
  case h_7 =>
    rename_i t n ps ho
    simp only [execOp, ho]
    obtain ⟨l, hl, h1⟩ := layK_some h
    split at h1
    · rename_i e hu
      obtain ⟨hk, h2⟩ := tst_none h1
      simp only [Bool.and_eq_true] at hk
      have hq := rep_parts hg hf ps.toList
      rw [← parts_toList] at hq
      exact OpGives.of (buildSlice_sound hE hok hc hl hu hk.1.1 (Nat.eq_of_beq_eq_true hk.1.2) (Nat.le_of_ble_eq_true hk.2) hq h2)
    · cases h1
  case h_8 => rename_i t x ho; simp only [execOp, ho]; exact stay (loadK_sound hE hok hc (O x) h) (fun _ => rfl)
  case h_9 =>
    rename_i t p x ho
    simp only [execOp, ho]
    exact gives_skip (does_store (storeK_sound hE hok hc (O p) (O x) h)) (fun _ => rfl)
  case h_10 =>
    rename_i x ho
    have hx := O x
    simp only [execOp, ho]
    split at h
    · rename_i hv; rw [hv] at hx
      generalize a.eval x = val at hx
      cases hx with
      | ptr hp => exact gives_pure hok hc (.ptr hp) h
    · rename_i hv; rw [hv] at hx
      generalize a.eval x = val at hx
      cases hx with
      | view f h1 h2 h3 h4 => exact gives_pure hok hc (.view f h1 h2 h3 h4) h
    · rename_i f u v hv; rw [hv] at hx
      generalize a.eval x = val at hx
      generalize hfn : Fn.func f = fn at hx h
      cases hx with
      | func h1 h2 h3 h4 h5 => subst hfn; exact gives_pure hok hc (Rep.func (fn := .func f) h1 h2 h3 h4 h5) h
    · rename_i hv; rw [hv] at hx
      generalize a.eval x = val at hx
      cases hx with
      | iface h1 => exact gives_pure hok hc (.iface h1) h
    · cases h
  case h_11 => rename_i op t x y pos ho; simp only [execOp, ho]; exact stay (binK_sound hE h (O x) (O y) x y C.w) (fun _ => rfl)
  case h_12 => rename_i op t x ho; simp only [execOp, ho]; exact stay (unK_sound h (O x) C.w) (fun _ => rfl)
  case h_13 =>
    rename_i s t x ho
    simp only [execOp, ho]
    obtain ⟨D, val, v, h1, h2, h3, h4, h5, h6⟩ := convK_sound hE hok hc (O x) h
    exact OpGives.of ⟨D, val, v, σ, h1, h2, h3, h4, Tame.refl σ, h5, h6⟩
  case h_14 =>
    rename_i t x ho
    simp only [execOp, ho]
    obtain ⟨l, hl, h1⟩ := layK_some h
    obtain ⟨i, hi, hd, _⟩ := layOf_facts (hE.lay _ _ hl)
    split at h1
    · cases h1
    · rename_i hne
      refine stay (K0 := fun v => K v σ) ⟨.iface t (a.eval x), _, ?_, .iface (O x), seeK_some h1⟩ (fun _ => rfl)
      generalize hud : l.und = d at hd hne
      cases d <;> first | (exact absurd rfl (hne _)) | simp [Instr.makeInterface, run_underlying hd]
  case h_15 =>
    rename_i fn xs ys ho
    simp only [execOp, ho]
    split at h
    · rename_i f
      have hx := rep_opds hg hf xs.toList
      have hy := rep_opds hg hf ys.toList
      have hx' : (xs.map a.eval).toList = xs.toList.map a.eval := by simp
      have hy' : (ys.map a.eval).toList = ys.toList.map a.eval := by simp
      refine stay (K0 := fun v => K v σ) ⟨.func (.func f) (xs.map a.eval) (ys.map a.eval), _, ?_, Rep.func (fn := .func f) trivial ?_ ?_ ?_ ?_, h⟩ (fun _ => rfl)
      · simp [Instr.makeFunc]
      · rw [hx']; exact hx.1
      · rw [hy']; exact hy.1
      · rw [hx']; exact hx.2
      · rw [hy']; exact hy.2
    · cases h
  case h_16 => rename_i t x ho; simp only [execOp, ho]; exact OpGives.of (makeMapK_sound hE hok hc (rep_optOpd hg hf x) h)
  case h_17 => rename_i t x y ho; simp only [execOp, ho]; exact OpGives.of (makeSliceK_sound hE hok hc (O x) (O y) h)
  case h_18 => rename_i t x lo hi mx ho; simp only [execOp, ho]; exact OpGives.of (sliceK_sound hE hok hc (O x) (rep_optOpd hg hf lo) (rep_optOpd hg hf hi) (rep_optOpd hg hf mx) h)
  case h_19 => rename_i t x i ho; simp only [execOp, ho]; exact stay (fieldAddrK_sound hE (O x) h) (fun _ => rfl)
  case h_20 => rename_i t x i ho; simp only [execOp, ho]; exact stay (fieldK_sound hE (O x) h) (fun _ => rfl)
  case h_21 => rename_i t x i ho; simp only [execOp, ho]; exact stay (indexAddrK_sound hE hc (O x) (O i) h) (fun _ => rfl)
  case h_22 => rename_i t x i ho; simp only [execOp, ho]; exact stay (indexK_sound hE (O x) (O i) h) (fun _ => rfl)
  case h_23 => rename_i t m k ok ho; simp only [execOp, ho]; exact stay (lookupK_sound hE hok hc (O m) (O k) h) (fun _ => rfl)
  case h_24 => rename_i t m k x ho; simp only [execOp, ho]; exact gives_skip (mapUpdateK_sound hE hok hc (O m) (O k) (O x) h) (fun _ => rfl)
  case h_25 => rename_i t m k ho; simp only [execOp, ho]; exact OpGives.of (mapEntryK_sound hE hok hc (O m) (O k) h)
  case h_26 => rename_i t m s x ho; simp only [execOp, ho]; exact gives_skip (entryStoreK_sound hok hc (O m) (O s) (O x) h) (fun _ => rfl)
  case h_27 => rename_i c ho; rw [ho] at hp; cases hp
  case h_28 =>
    rename_i x i ho
    simp only [execOp, ho]
    split at h
    · rename_i vs hv
      obtain ⟨e, he, h1⟩ := atK_some h
      have hx := O x
      rw [hv] at hx
      generalize a.eval x = val at hx
      cases hx with
      | tuple h2 h3 =>
        rename_i X
        have hlt : i < X.toList.length := by rw [h2]; exact (List.getElem?_eq_some_iff.1 he).1
        have hxe : X.toList[i]? = some (X.toList[i]) := List.getElem?_eq_getElem hlt
        refine stay (K0 := fun v => K v σ) ⟨X.toList[i], e, ?_, h3 i _ e hxe he, h1⟩ (fun _ => rfl)
        rw [Array.getElem?_toList] at hxe
        simp only [Instr.extract, hxe, Sem.run_pure]
    · cases h
  case h_29 =>
    rename_i x ho
    simp only [execOp, ho]
    split at h
    · rename_i t v hv
      have hx := O x
      rw [hv] at hx
      refine .inr ⟨a.eval x, _, ?_, hx, h⟩
      generalize a.eval x = val at hx
      cases hx with
      | iface h1 => simp [Instr.panic]
    · cases h
  case h_30 =>
    rename_i c ho
    simp only [execOp, ho, resolve]
    split at h
    · rename_i f hcal
      exfalso
      rw [ho] at hp
      cases c with
      | mk callee args ats =>
        simp only at hcal
        subst hcal
        cases hp
    · rename_i b hcal
      rw [hcal]
      simp only [Sem.run_bind, Sem.run_pure, Result.andThen_ok, invoke]
      split at h
      · rename_i x t hxs hts
        obtain ⟨xv, hx1, hx2⟩ := args1 hxs hg hf
        simp only [builtin, hx1, arr_of_list hts]
        exact stay (lenK_sound hE hok hc hx2 h) (fun _ => rfl)
      · rename_i s x t t2 hxs hts
        obtain ⟨sv, xv, hx1, hx2, hx3⟩ := args2 hxs hg hf
        simp only [builtin, hx1, arr_of_list hts]
        exact OpGives.of (appendK_sound hE hok hc hx2 hx3 h)
      · rename_i x y t ts hxs hts
        obtain ⟨sv, xv, hx1, hx2, hx3⟩ := args2 hxs hg hf
        simp only [builtin, hx1, arr_of_list hts]
        exact OpGives.of (copyK_sound hE hok hc hx2 hx3 h)
      · rename_i x y ts hxs
        obtain ⟨sv, xv, hx1, hx2, hx3⟩ := args2 hxs hg hf
        simp only [builtin, hx1]
        exact stay (by simpa using maxK_sound (op := true) hx2 hx3 h c.argTypes o.type C.w) (fun _ => rfl)
      · rename_i x y ts hxs
        obtain ⟨sv, xv, hx1, hx2, hx3⟩ := args2 hxs hg hf
        simp only [builtin, hx1]
        exact stay (by simpa using maxK_sound (op := false) hx2 hx3 h c.argTypes o.type C.w) (fun _ => rfl)
      · cases h
    · cases h
  case h_31 => cases h
end
end Go.Tv

/- Frames; what calls come to; operations. -/
namespace Go.Tv
open Go Go.RowKit

section
variable {P : Program} {E : Env} {C D : Ctx}

theorem FrOk.nil (C : Ctx) (a : Act) : FrOk C a .nil := fun t => .undef _

theorem FrOk.ext {a : Act} {fr : Tr TV} (h : ∀ v t, Rep C v t → Rep D v t) (hf : FrOk C a fr) : FrOk D a fr := fun t => h _ _ (hf t)

theorem FrOk.set {a : Act} {fr : Tr TV} (hf : FrOk C a fr) {d : Nat} {v : Value} {t : TV} (hr : Rep C v t) (hd : d < a.tmps.size) (_hbig : d + 1 < 4096) (defs : List Deferred) :
    FrOk C { tmps := a.tmps.setIfInBounds d v, defers := defs } (fr.set 12 d t) := by
  intro s
  show Rep C ((a.tmps.setIfInBounds d v).getD s undef) _
  have hget : (a.tmps.setIfInBounds d v).getD s undef = if s = d then v else a.tmps.getD s undef := by
    rw [Array.getD_eq_getD_getElem?, Array.getElem?_setIfInBounds, Array.getD_eq_getD_getElem?]
    by_cases hs : s = d
    · subst hs
      rw [if_pos rfl, if_pos rfl, if_pos hd]; rfl
    · rw [if_neg (Ne.symm hs), if_neg hs]
  rw [hget]
  by_cases hs : s = d
  · subst hs
    rw [if_pos rfl, Tr.get_set_same 12 fr s t]
    exact hr
  · rw [if_neg hs, Tr.get_set_ne 12 fr d s t hs]
    exact hf s

/-- Slots that stand stand in a frame laid from them. -/
theorem slots_ok {a : Act} : ∀ {ts : List Nat} {vs : List TV} {fr : Tr TV}, FrOk C a fr → RepS C a.tmps ts vs → FrOk C a (ofSlots ts vs fr)
  | [], vs, fr, hf, _ => by cases vs <;> exact hf
  | t :: ts, [], fr, hf, h => h.elim
  | t :: ts, v :: vs, fr, hf, h => by
    refine slots_ok (ts := ts) (vs := vs) (fun s => ?_) h.2
    by_cases hs : s = t
    · subst hs
      rw [Tr.get_set_same 12 fr s v]
      exact h.1
    · rw [Tr.get_set_ne 12 fr t s v hs]
      exact hf s

theorem gets_ok {a : Act} {fr : Tr TV} (hf : FrOk C a fr) : ∀ ts : List Nat, RepS C a.tmps ts (gets fr ts)
  | [] => trivial
  | t :: ts => ⟨hf t, gets_ok hf ts⟩

theorem argSlots_ok {a : Act} : ∀ {vs : List TV} {i : Nat} {fr : Tr TV}, FrOk C a fr → (∀ (j : Nat) (v : TV), vs[j]? = some v → Rep C (a.tmps.getD (i + j) undef) v) → FrOk C a (argSlots i vs fr)
  | [], i, fr, hf, _ => hf
  | v :: vs, i, fr, hf, h => by
    refine argSlots_ok (vs := vs) (fun s => ?_) (fun j u hu => by have := h (j + 1) u (by simpa using hu); rwa [show i + (j + 1) = i + 1 + j by omega] at this)
    by_cases hs : s = i
    · subst hs
      rw [Tr.get_set_same 12 fr s v]
      exact h 0 v rfl
    · rw [Tr.get_set_ne 12 fr i s v hs]
      exact hf s

/-! ### what is looked at once for all -/
def opFit (n : Nat) (o : Oper) : Bool :=
  match o.dst with | some d => decide (d < n) | none => true

/-- Is a tmp the operation's own? -/
def opTouches (ops : Array Oper) (o : Oper) (t : Tmp) : Bool :=
  (o.op.operands.toList.any fun x => match x with | .tmp s => Nat.beq s t | _ => false) ||
  (match o.guard with | some (j, _) => (match ops[j]? with | some oj => (match oj.dst with | some s => Nat.beq s t | none => false) | none => false) | none => false)

/-- Do two operations share a tmp that one of them writes? -/
def opShare (ops : Array Oper) (o p : Oper) : Bool :=
  (match o.dst with | some t => opTouches ops p t || (match p.dst with | some s => Nat.beq s t | none => false) | none => false) ||
  (match p.dst with | some t => opTouches ops o t | none => false)

def isW : Kd → Bool
  | .w => true
  | _ => false

/-- What must be ordered is ordered. -/
def drawPairs (E : Env) (ops : Array Oper) (ms : List Nat) (k : Nat) (p : Oper) : Nat → List Oper → Bool
  | _, [] => true
  | i, o :: os => (!(Nat.blt i k) || ((!(opShare ops o p || (isW (kdOf E o) && isW (kdOf E p)))) || (ms.getD k 0).testBit i)) && drawPairs E ops ms k p (i + 1) os
def drawEach (E : Env) (ops : Array Oper) (ms : List Nat) : Nat → List Oper → Bool
  | _, [] => true
  | k, p :: ps => (p.after.toList.all fun e => !Region.binds .any e || Nat.blt e.on k) && drawPairs E ops ms k p 0 ops.toList && drawEach E ops ms (k + 1) ps
def drawOk (E : Env) (ops : Array Oper) : Bool := drawEach E ops (masks ops.toList []) 0 ops.toList

def codeFit (E : Env) (f : FuncId) (n : Nat) : Code → Bool
  | .region id ops draw => ops.toList.all (opFit n) && (!draw || E.bad f id || drawOk E ops)
  | .seq a b => codeFit E f n a && codeFit E f n b
  | .cond _ a b => codeFit E f n a && codeFit E f n b
  | .block _ b => codeFit E f n b
  | .loop b => codeFit E f n b
  | .rangeFunc _ ps a b => ps.toList.all (fun d => decide (d < n)) && codeFit E f n a && codeFit E f n b
  | .scope b => codeFit E f n b
  | _ => true

def loopsOf : Code → List (Nat × Code)
  | .loop b => (match firstId b with | some i => [(i, b)] | none => []) ++ loopsOf b
  | .seq a b => loopsOf a ++ loopsOf b
  | .cond _ a b => loopsOf a ++ loopsOf b
  | .block _ b => loopsOf b
  | .scope b => loopsOf b
  | .rangeFunc _ _ a b => loopsOf a ++ loopsOf b
  | _ => []

def rangesOf : Code → List (Nat × Array Tmp × Code × Code)
  | .rangeFunc _ ps a b => (match firstId b with | some i => [(i, ps, a, b)] | none => []) ++ (rangesOf a ++ rangesOf b)
  | .loop b => rangesOf b
  | .seq a b => rangesOf a ++ rangesOf b
  | .cond _ a b => rangesOf a ++ rangesOf b
  | .block _ b => rangesOf b
  | .scope b => rangesOf b
  | _ => []

def distinct : List Nat → Bool
  | [] => true
  | x :: xs => !xs.contains x && distinct xs

theorem findLoop_eq (id : Nat) : ∀ c : Code, findLoop id c = ((loopsOf c).find? fun p => Nat.beq p.1 id).map (·.2) := by
  intro c
  induction c with
  | loop b ih =>
    unfold findLoop loopsOf
    cases hb : firstId b with
    | none => simp [ih]
    | some i =>
      cases hi : Nat.beq i id with
      | true => simp [hi]
      | false => simp [hi, ih]
  | seq a b iha ihb =>
    unfold findLoop loopsOf
    rw [List.find?_append, iha, ihb]
    cases h : (loopsOf a).find? (fun p => Nat.beq p.1 id) <;> simp
  | cond x a b iha ihb =>
    unfold findLoop loopsOf
    rw [List.find?_append, iha, ihb]
    cases h : (loopsOf a).find? (fun p => Nat.beq p.1 id) <;> simp
  | block i b ih => unfold findLoop loopsOf; exact ih
  | scope b ih => unfold findLoop loopsOf; exact ih
  | rangeFunc fo ps a b iha ihb =>
    unfold findLoop loopsOf
    rw [List.find?_append, iha, ihb]
    cases h : (loopsOf a).find? (fun p => Nat.beq p.1 id) <;> simp
  | _ => rfl

theorem findRange_eq (id : Nat) : ∀ c : Code, findRange id c = ((rangesOf c).find? fun p => Nat.beq p.1 id).map (·.2) := by
  intro c
  induction c with
  | rangeFunc fo ps a b iha ihb =>
    unfold findRange rangesOf
    have hab : (match findRange id a with | some c => some c | none => findRange id b) = (((rangesOf a ++ rangesOf b).find? fun p => Nat.beq p.1 id).map (·.2)) := by
      rw [List.find?_append, iha, ihb]
      cases h : (rangesOf a).find? (fun p => Nat.beq p.1 id) <;> simp
    cases hb : firstId b with
    | none => simp only [List.nil_append]; exact hab
    | some i =>
      cases hi : Nat.beq i id with
      | true => simp [hi]
      | false => simp only [hi, List.cons_append, List.nil_append, List.find?_cons]; exact hab
  | seq a b iha ihb =>
    unfold findRange rangesOf
    rw [List.find?_append, iha, ihb]
    cases h : (rangesOf a).find? (fun p => Nat.beq p.1 id) <;> simp
  | cond x a b iha ihb =>
    unfold findRange rangesOf
    rw [List.find?_append, iha, ihb]
    cases h : (rangesOf a).find? (fun p => Nat.beq p.1 id) <;> simp
  | loop b ih => unfold findRange rangesOf; exact ih
  | block i b ih => unfold findRange rangesOf; exact ih
  | scope b ih => unfold findRange rangesOf; exact ih
  | _ => rfl

theorem distinct_find {β : Type} : ∀ {l : List (Nat × β)} {i : Nat} {b : β}, distinct (l.map (·.1)) = true → (i, b) ∈ l → (l.find? fun p => Nat.beq p.1 i).map (·.2) = some b
  | [], _, _, _, h => nomatch h
  | (j, c) :: l, i, b, hd, h => by
    simp only [List.map_cons, distinct, Bool.and_eq_true, Bool.not_eq_true'] at hd
    rw [List.find?_cons]
    rcases List.mem_cons.1 h with h | h
    · cases h
      have : ∀ k, Nat.beq k k = true := Nat.beq_refl
      rw [this]; rfl
    · have hne : Nat.beq j i = false := by
        cases hji : Nat.beq j i with
        | false => rfl
        | true =>
          have := Nat.eq_of_beq_eq_true hji
          subst this
          have hm : j ∈ l.map (·.1) := List.mem_map.2 ⟨_, h, rfl⟩
          have h1 := hd.1
          rw [← Bool.not_eq_true] at h1
          exact absurd (List.contains_iff_mem.2 hm) h1
      rw [hne]
      exact distinct_find hd.2 h

/-! ### what calls come to -/
def AnsC (P : Program) (E : Env) (C : Ctx) (σ : St) (a : Ans) (e : Ending) (w' : World) : Prop :=
  ∃ D, Adv C D ∧ Ok P E D ∧ D.w = w' ∧ D.ents = a.σ.ents ∧ Tame0 σ a.σ ∧
    match a.e, a.vs with
    | .ret, [v] => ∃ val, e = .returned val ∧ Rep D val v
    | .pan v, _ => ∃ val, e = .panicked [{ v := val, recovered := false }] ∧ Rep D val v
    | _, _ => False

/-- A call by a function's number. -/
def Invoked (P : Program) (f : FuncId) (vs : Array Value) (w : World) (R : Ending → World → Prop) : Prop :=
  (∃ val w', (callFunc f vs).run P w = .ok (.value val) w' ∧ R (.returned val) w') ∨ ∃ g us w', (callFunc f vs).run P w = .ok (.enter g us) w' ∧ Calls P g us w' R

theorem Invoked.mono {f : FuncId} {vs : Array Value} {w : World} {R R' : Ending → World → Prop} (h : Invoked P f vs w R) (hr : ∀ e w', R e w' → R' e w') : Invoked P f vs w R' := by
  rcases h with ⟨val, w', h1, h2⟩ | ⟨g, us, w', h1, h2⟩
  · exact .inl ⟨val, w', h1, hr _ _ h2⟩
  · exact .inr ⟨g, us, w', h1, h2.mono hr⟩

/-- A library function that a Lean function stands for. -/
def ExtSound (P : Program) (E : Env) (f : FuncId) (g : List TV → St → Option (TV × St)) : Prop :=
  ∀ (C : Ctx) (σ : St) (args : List TV) (vs : Array Value) (v : TV) (σ' : St), Ok P E C → GOk E C → C.ents = σ.ents → RepL C vs.toList args → g args σ = some (v, σ') →
    Invoked P f vs C.w fun e w' => ∃ D val, e = .returned val ∧ Adv C D ∧ Ok P E D ∧ D.w = w' ∧ D.ents = σ'.ents ∧ Tame σ σ' ∧ Rep D val v

structure EnvOk (P : Program) (E : Env) : Prop extends EnvOk0 P E where
  fit : ∀ f fn c, E.code f = some fn → fn.body = some c → fn.ntmps < 4096 ∧ codeFit E f fn.ntmps c = true ∧ distinct ((loopsOf c).map (·.1)) = true ∧ distinct ((rangesOf c).map (·.1)) = true
  mixed : P.follows .mixedOrders = true
  name : ∀ f fn, E.code f = some fn → (fn.name == "runtime.NumGoroutine") = false
  ext : ∀ f g, E.ext f = some g → ExtSound P E f g
  pext : ∀ f g, E.pext f = some g → ExtSound P E f (fun args σ => match g args with | some v => some (v, σ) | none => none)

/-! ### fences -/
def FW (F : Fence) : Prop := F = Fence.wide ∨ ∃ l, F = Fence.wide.inRound l
theorem FW.fn {F : Fence} (h : FW F) (f : FuncId) : F.fn f := by rcases h with rfl | ⟨l, rfl⟩ <;> trivial
theorem FW.depth {F : Fence} (h : FW F) : F.depth = none := by rcases h with rfl | ⟨l, rfl⟩ <;> rfl
theorem FW.calls {F : Fence} {n : Nat} {f : FuncId} {vs : Array Value} {w : World} {R : Ending → World → Prop} (h : FW F) (hc : Calls P f vs w R) : CallsIn F n P f vs w R := by
  rcases h with rfl | ⟨l, rfl⟩
  · exact callsIn_wide.2 hc
  · exact (callsIn_wide (n := n)).2 hc

/-! ### loops -/
/-- The machine stands at the head of a loop's round. -/
def LoopWp (F : Fence) (n : Nat) (P : Program) (c : Code) (Q : Exit → Act → World → Prop) (a : Act) (w : World) : Prop :=
  ∀ (b : Frame) (k : List Item) (cs : List Frame), b.roundOf = F.round → F.fn b.fn → F.room (cs.length + 1 + n) →
    ∃ e a' w', Q e a' w' ∧ ArrivesIn (Machine.fenced P F) P (lone (b.atR a (.code c :: .inLoop c :: k)) cs w) b k cs e a' w'

theorem wpIn_loop_of {F : Fence} {n : Nat} {c : Code} {Q : Exit → Act → World → Prop} {a : Act} {w : World} (h : LoopWp F n P c Q a w) : (Code.loop c).wpIn F n P Q a w := by
  intro b k cs hro hb hr
  obtain ⟨e, a', w', hq, harr⟩ := h b k cs hro hb hr
  exact ⟨e, a', w', hq, .of_steps (.one (fenced_calm hb hr rfl) stepR_loop) harr⟩

theorem loopWp_round {F : Fence} {n : Nat} {c : Code} {Q : Exit → Act → World → Prop} {a : Act} {w : World} (h : c.wpIn F n P (Exit.then (LoopWp F n P c Q) Q) a w) : LoopWp F n P c Q a w := by
  intro b k cs hro hb hr
  obtain ⟨e, a₁, w₁, hq, harr⟩ := h b (.inLoop c :: k) cs hro hb hr
  cases e with
  | normal =>
    obtain ⟨e₂, a₂, w₂, hq₂, harr₂⟩ := hq b k cs hro hb hr
    exact ⟨e₂, a₂, w₂, hq₂, .of_steps (StepsIn.trans harr (.one (fenced_calm hb hr rfl) stepR_inLoop)) harr₂⟩
  | exit id => exact ⟨_, a₁, w₁, hq, .pass (x := .inLoop c) rfl (fun _ _ => .inl (by simp)) harr⟩
  | goto l => exact ⟨_, a₁, w₁, hq, .pass (x := .inLoop c) rfl (fun _ _ => .inl (by simp)) harr⟩
  | ret => exact ⟨_, a₁, w₁, hq, .pass (x := .inLoop c) rfl (fun _ _ => .inl (by simp)) harr⟩
  | panic ch => exact ⟨_, a₁, w₁, hq, .pass (x := .inLoop c) rfl (fun _ _ => .inl (by simp)) harr⟩
  | outgrown => exact ⟨_, a₁, w₁, hq, .pass (x := .inLoop c) rfl (fun _ _ => .inl (by simp)) harr⟩

theorem stepR_scope {P : Program} {b : Frame} {a : Act} {k : List Item} {cs : List Frame} {w : World} {c : Code} : step P (lone (b.atR a (.code (.scope c) :: k)) cs w) = .next (lone (b.atR a (.code c :: .inScope c :: k)) cs w) :=
  step_lone_go (by simp [stepG, stepG.exec, Frame.atR])
theorem stepR_inScope {P : Program} {b : Frame} {a : Act} {k : List Item} {cs : List Frame} {w : World} {c : Code} : step P (lone (b.atR a (.inScope c :: k)) cs w) = .next (lone (b.atR a k) cs w) :=
  step_lone_go (by simp [stepG, stepG.exec, Frame.atR])

theorem wpIn_scope {F : Fence} {n : Nat} {c : Code} {Q : Exit → Act → World → Prop} {a : Act} {w : World} (h : c.wpIn F n P (fun e a w => (∀ l, e ≠ .goto l) ∧ Q e a w) a w) : (Code.scope c).wpIn F n P Q a w := by
  intro b k cs hro hb hr
  obtain ⟨e, a₁, w₁, ⟨hng, hq⟩, harr⟩ := h b (.inScope c :: k) cs hro hb hr
  refine ⟨e, a₁, w₁, hq, .of_steps (.one (fenced_calm hb hr rfl) stepR_scope) ?_⟩
  cases e with
  | normal => exact StepsIn.trans harr (.one (fenced_calm hb hr rfl) stepR_inScope)
  | exit id => exact ⟨fun k' hk => harr.1 k' (by simp [exitTo, hk]), fun hr hk => harr.2 hr (by simp [exitTo, hk])⟩
  | goto l => exact absurd rfl (hng l)
  | ret => exact harr
  | panic ch => exact harr
  | outgrown => exact harr

theorem LoopWp.mono {F : Fence} {n : Nat} {c : Code} {Q Q' : Exit → Act → World → Prop} {a : Act} {w : World} (h : LoopWp F n P c Q a w) (hq : ∀ e a w, Q e a w → Q' e a w) : LoopWp F n P c Q' a w :=
  fun b k cs hro hb hr => let ⟨e, a', w', q, r⟩ := h b k cs hro hb hr; ⟨e, a', w', hq _ _ _ q, r⟩
end
end Go.Tv

/- Calls: what lies behind a call is let go. -/
namespace Go.Tv
open Go Go.RowKit

section
variable {P : Program} {E : Env} {C D : Ctx}

/-! ### entries let go -/
def Ctx.trunc (C : Ctx) (n : Nat) : Ctx := { C with ents := C.ents.take n }

theorem trunc_get {n r : Nat} (h : r < n) : (C.trunc n).ents[r]? = C.ents[r]? := by
  show (C.ents.take n)[r]? = _
  rw [List.getElem?_take, if_pos h]
theorem trunc_back {n r : Nat} {e : Ent} (h : (C.trunc n).ents[r]? = some e) : r < n ∧ C.ents[r]? = some e := by
  have h' : (C.ents.take n)[r]? = some e := h
  rw [List.getElem?_take] at h'
  split at h'
  · exact ⟨by assumption, h'⟩
  · cases h'

theorem trunc_plain {n r : Nat} (h : C.plain r) (hr : r < n) : (C.trunc n).plain r :=
  ⟨by show r < (C.ents.take n).length; rw [List.length_take]; have := h.1; omega, fun v p s ht => h.2 v p s (trunc_back ht).2⟩

theorem trunc_past {n id ver : Nat} (h : C.past id ver) (hr : id < n) : (C.trunc n).past id ver := by
  obtain ⟨v, p, s, ht, hv⟩ := h
  exact ⟨v, p, s, (trunc_get hr).trans ht, hv⟩

theorem trunc_held {n : Nat} {o : Own} {b e : Nat} (h : C.held o b e) (hr : ∀ id ver, o = .tk id ver → id < n) : (C.trunc n).held o b e := by
  cases o with
  | sh => exact h
  | ex => exact h
  | tk id ver => exact ⟨trunc_past h.1 (hr _ _ rfl), fun pin sz ht => h.2 pin sz (trunc_back ht).2⟩

theorem trunc_cur {n : Nat} {o : Own} (h : (C.trunc n).cur o) : C.cur o := by
  cases o with
  | sh => trivial
  | ex => trivial
  | tk id ver => obtain ⟨p, s, ht⟩ := h; exact ⟨p, s, (trunc_back ht).2⟩

theorem refsL_get {vs : List TV} {i : Nat} {v : TV} (h : vs[i]? = some v) : v.refs ≤ TV.refsL vs := by
  induction vs generalizing i with
  | nil => simp at h
  | cons x vs ih =>
    cases i with
    | zero => simp at h; subst h; simp only [TV.refsL]; omega
    | succ i => have := ih (i := i) (by simpa using h); simp only [TV.refsL]; omega

theorem Rep.trunc {n : Nat} {v : Value} {t : TV} (h : Rep C v t) : t.refs ≤ n → Rep (C.trunc n) v t := by
  induction h with
  | undef v => intro _; exact .undef v
  | bool b => intro _; exact .bool b
  | int k n => intro _; exact .int k n
  | str l => intro _; exact .str l
  | nilp => intro _; exact .nilp
  | ptr hp => intro hr; exact .ptr (C := C.trunc n) (trunc_plain hp (by simp only [TV.refs] at hr; omega))
  | view f hh hz hc _ ih =>
    rename_i o b off cs _
    intro hr
    refine .view f (trunc_held hh ?_) hz (fun hD j hj => hc (trunc_cur hD) j hj) (fun j c hj => ih j c hj (by have := refsL_get hj; have := hz.1; omega))
    rintro id ver rfl
    simp only [TV.refs] at hr; omega
  | slice sz f hl hcap he hs hc _ ih =>
    rename_i o a len cap es _
    intro hr
    have hid : ∀ id ver, o = .tk id ver → id < n := by
      rintro id ver rfl
      simp only [TV.refs] at hr; omega
    refine .slice sz f hl hcap he ⟨hs.none, fun ad ha => ⟨(hs.some ad ha).1, fun h0 => trunc_held ((hs.some ad ha).2 h0) hid⟩, hs.ex, fun id ver ho => ?_⟩ (fun ad i j ha hD hi hj => hc ad i j ha (trunc_cur hD) hi hj)
      (fun i j e c h1 h2 => ih i j e c h1 h2 (by have := refsL_get h2; have := (he e (List.mem_of_getElem? h1)).2.1.1; omega))
    obtain ⟨h1, h2⟩ := hs.tk id ver ho
    exact ⟨trunc_past h1 (hid _ _ ho), fun pin s ht => h2 pin s (trunc_back ht).2⟩
  | bsl hp hl ho => intro hr; exact .bsl (C := C.trunc n) (trunc_plain hp (by simp only [TV.refs] at hr; omega)) hl ho
  | nilm => intro _; exact .nilm
  | map hp => intro hr; exact .map (C := C.trunc n) (trunc_plain hp (by simp only [TV.refs] at hr; omega))
  | func hf hx hy _ _ ihx ihy =>
    rename_i fn x y a b _ _
    intro hr
    simp only [TV.refs] at hr
    refine .func (C := C.trunc n) ?_ hx hy (fun i v t h1 h2 => ihx i v t h1 h2 (by have := refsL_get h2; omega)) (fun i v t h1 h2 => ihy i v t h1 h2 (by have := refsL_get h2; omega))
    cases fn with
    | yield r => exact trunc_plain hf (by simp only [fnRef] at hr; omega)
    | _ => trivial
  | nilf => intro _; exact .nilf
  | iface _ ih => intro hr; exact .iface (ih hr)
  | nili => intro _; exact .nili
  | agg hx _ ih => intro hr; exact .agg hx (fun i v t h1 h2 => ih i v t h1 h2 (by simp only [TV.refs] at hr; have := refsL_get h2; omega))
  | tuple hx _ ih => intro hr; exact .tuple hx (fun i v t h1 h2 => ih i v t h1 h2 (by simp only [TV.refs] at hr; have := refsL_get h2; omega))

theorem refsL_le {ts : List TV} {n : Nat} (h : ∀ (i : Nat) (t : TV), ts[i]? = some t → t.refs ≤ n) : TV.refsL ts ≤ n := by
  induction ts with
  | nil => exact Nat.zero_le _
  | cons t ts ih =>
    have h1 := h 0 t rfl
    have h2 := ih fun i u hu => h (i + 1) u (by simpa using hu)
    simp only [TV.refsL]; omega

theorem past_lt {id ver : Nat} (h : C.past id ver) : id < C.ents.length := by
  obtain ⟨v, p, s, ht, _⟩ := h
  exact (List.getElem?_eq_some_iff.1 ht).1

theorem Rep.refs_le {v : Value} {t : TV} (h : Rep C v t) : t.refs ≤ C.ents.length := by
  have all : ∀ {x : Array Value} {cs : List TV}, x.toList.length = cs.length → (∀ (i : Nat) (v : Value) (t : TV), x.toList[i]? = some v → cs[i]? = some t → t.refs ≤ C.ents.length) → TV.refsL cs ≤ C.ents.length := by
    intro x cs hl h
    refine refsL_le fun i t ht => ?_
    have hlt : i < x.toList.length := by rw [hl]; exact (List.getElem?_eq_some_iff.1 ht).1
    exact h i _ t (List.getElem?_eq_getElem hlt) ht
  induction h with
  | ptr hp => exact hp.1
  | view f hh hz hc _ ih =>
    rename_i o b off cs _
    cases o with
    | sh => exact Nat.zero_le _
    | ex => exact Nat.zero_le _
    | tk id ver => exact past_lt hh.1
  | slice sz f hl hcap he hs hc _ ih =>
    rename_i o a len cap es _
    cases o with
    | sh => exact Nat.zero_le _
    | ex => exact Nat.zero_le _
    | tk id ver => exact past_lt (hs.tk id ver rfl).1
  | bsl hp hl ho => exact hp.1
  | map hp => exact hp.1
  | func hf hx hy _ _ ihx ihy =>
    rename_i fn x y a b _ _
    have h1 := all hx ihx
    have h2 := all hy ihy
    simp only [TV.refs]
    have h3 : fnRef fn ≤ C.ents.length := by
      cases fn with
      | yield r => exact hf.1
      | _ => exact Nat.zero_le _
    omega
  | iface _ ih => exact ih
  | agg hx _ ih => exact all hx ih
  | tuple hx _ ih => exact all hx ih
  | _ => exact Nat.zero_le _

theorem RepL.refs_le {vs : List Value} {ts : List TV} (h : RepL C vs ts) : TV.refsL ts ≤ C.ents.length := by
  refine refsL_le fun i t ht => ?_
  have hlt : i < vs.length := by rw [h.1]; exact (List.getElem?_eq_some_iff.1 ht).1
  exact (h.2 i _ t (List.getElem?_eq_getElem hlt) ht).refs_le

theorem RepS.refs_le {tmps : Array Value} : ∀ {ts : List Nat} {vs : List TV}, RepS C tmps ts vs → TV.refsL vs ≤ C.ents.length
  | [], [], _ => Nat.zero_le _
  | t :: ts, v :: vs, h => by
    have h1 := h.1.refs_le
    have h2 := RepS.refs_le h.2
    simp only [TV.refsL]; omega

/-- Entries that stand refer to entries that stand. -/
theorem Ok.refs (hok : Ok P E C) {r : Nat} {e : Ent} (he : C.ents[r]? = some e) : e.refs ≤ C.ents.length := by
  have h := hok.obj r e he
  cases e with
  | box ty cs => obtain ⟨_, arr, _, _, _, _, h3⟩ := h; exact h3.refs_le
  | ice cs => obtain ⟨arr, _, _, _, _, h3⟩ := h; exact h3.refs_le
  | map t es =>
    obtain ⟨_, en, _, hs, h3⟩ := h
    have key : ∀ (l : List (TV × TV)), (∀ kv ∈ l, kv.1.refs ≤ C.ents.length ∧ kv.2.refs ≤ C.ents.length) → refsE l ≤ C.ents.length := by
      intro l hl
      induction l with
      | nil => exact Nat.zero_le _
      | cons kv l ih =>
        obtain ⟨k, v⟩ := kv
        have h1 := hl _ List.mem_cons_self
        have h2 := ih fun kv hkv => hl kv (List.mem_cons_of_mem _ hkv)
        simp only [refsE]
        simp only at h1
        omega
    refine key es fun kv hkv => ?_
    obtain ⟨i, hi⟩ := List.getElem?_of_mem hkv
    have hlt : i < en.size := by rw [hs]; exact (List.getElem?_eq_some_iff.1 hi).1
    have := h3 i _ kv (Array.getElem?_eq_getElem hlt) hi
    exact ⟨this.2.1.refs_le, this.2.2.refs_le⟩
  | rl f id vals st pend => obtain ⟨_, tmps, ps, as, b, d, fn, c, ins, outs, _, _, _, _, _, _, _, h7⟩ := h; exact h7.refs_le
  | _ => exact Nat.zero_le _

theorem trunc_ok (hok : Ok P E C) {n : Nat} (hb : Below0 n C.ents) : Ok P E (C.trunc n) where
  lt r e he ha := hok.lt r e (trunc_back he).2 ha
  inj r s e f he hf ha hb hl := hok.inj r s e f (trunc_back he).2 (trunc_back hf).2 ha hb hl
  fresh := hok.fresh
  base := hok.base
  obj r e he := by
    obtain ⟨hr, he'⟩ := trunc_back he
    have h := hok.obj r e he'
    have hle := hb r e hr he'
    cases e with
    | box ty cs =>
      obtain ⟨h0, arr, lo, hi, h1, h2, h3⟩ := h
      exact ⟨h0, arr, lo, hi, h1, h2, h3.1, fun i v t hv ht => (h3.2 i v t hv ht).trunc (by have := refsL_get ht; simp only [Ent.refs] at hle; omega)⟩
    | ice cs =>
      obtain ⟨arr, ty, fr, h1, h2, h3⟩ := h
      exact ⟨arr, ty, fr, h1, h2, h3.1, fun i v t hv ht => (h3.2 i v t hv ht).trunc (by have := refsL_get ht; simp only [Ent.refs] at hle; omega)⟩
    | map t es =>
      obtain ⟨h0, en, h1, h2, h3⟩ := h
      refine ⟨h0, en, h1, h2, fun i x kv hx hkv => ?_⟩
      obtain ⟨k1, k2, k3⟩ := h3 i x kv hx hkv
      have := refsE_get hkv
      simp only [Ent.refs] at hle
      exact ⟨k1, k2.trunc (by omega), k3.trunc (by omega)⟩
    | rl f id vals st pend =>
      obtain ⟨h0, tmps, ps, as, b, d, fn, c, ins, outs, f0, h1, h2, h3, h4, h5, h6, h7⟩ := h
      refine ⟨h0, tmps, ps, as, b, d, fn, c, ins, outs, f0, h1, h2, h3, h4, h5, h6, ?_⟩
      have key : ∀ {ts : List Nat} {vs : List TV}, RepS C tmps ts vs → TV.refsL vs ≤ n → RepS (C.trunc n) tmps ts vs := by
        intro ts
        induction ts with
        | nil => intro vs h _; cases vs with
          | nil => trivial
          | cons _ _ => exact h.elim
        | cons t ts ih =>
          intro vs h hle
          cases vs with
          | nil => exact h.elim
          | cons v vs =>
            simp only [TV.refsL] at hle
            exact ⟨h.1.trunc (by omega), ih h.2 (by omega)⟩
      exact key h7 hle
    | tok v p sz => exact h
    | iter st pos => exact h
    | dfr => exact h
    | dead => trivial

/-- From a state to one that let go what came after it. -/
theorem trunc_adv (h : Adv C D) : Adv C (D.trunc C.ents.length) where
  rep v t hr := (h.rep v t hr).trunc hr.refs_le
  below := h.below
  base := h.base
  len := by show _ ≤ (D.ents.take _).length; rw [List.length_take]; have := h.len; omega
  fzb := h.fzb
  plain r hr := ⟨trunc_plain (h.plain r hr).1 hr.1, (h.plain r hr).2⟩

theorem below0_start (hok : Ok P E C) : Below0 C.ents.length C.ents := fun r e _ he => hok.refs he
end
end Go.Tv

/- Calls. -/
namespace Go.Tv
open Go Go.RowKit

section
variable {P : Program} {E : Env} {C D : Ctx}

/-- A value that refers to nothing stands wherever the world and what is frozen are the same. -/
theorem Rep.move (hw : D.w = C.w) (hz : D.fz = C.fz) {v : Value} {t : TV} (h : Rep C v t) : t.refs = 0 → t.noex = true → Rep D v t := by
  induction h with
  | undef v => intro _ _; exact .undef v
  | bool b => intro _ _; exact .bool b
  | int k n => intro _ _; exact .int k n
  | str l => intro _ _; exact .str l
  | nilp => intro _ _; exact .nilp
  | ptr hp => intro hr; simp [TV.refs] at hr
  | view f hh hb hc _ ih =>
    rename_i o b off cs _
    intro hr _
    have held : ∀ e, C.held o b e → D.held o b e := fun e h => by
      cases o with
      | sh => show e ≤ D.fz b; rw [hz]; exact h
      | ex => show e ≤ D.fz b; rw [hz]; exact h
      | tk id ver => simp [TV.refs] at hr
    have hcur : C.cur o := by
      cases o with
      | sh => trivial
      | ex => trivial
      | tk id ver => simp [TV.refs] at hr
    exact .view f (held _ hh) hb (fun _ j hj => by rw [hw]; exact hc hcur j hj) (fun j c hj => ih j c hj (refsL_iff.1 hb.1 c (List.mem_of_getElem? hj)) (noexL_iff.1 hb.2 c (List.mem_of_getElem? hj)))
  | slice sz f hl hcap he hs hc _ ih =>
    rename_i o a len cap es _
    intro hr hn
    have held : ∀ b e, C.held o b e → D.held o b e := fun b e h => by
      cases o with
      | sh => show e ≤ D.fz b; rw [hz]; exact h
      | ex => show e ≤ D.fz b; rw [hz]; exact h
      | tk id ver => simp [TV.refs] at hr
    have hcur : C.cur o := by
      cases o with
      | sh => trivial
      | ex => trivial
      | tk id ver => simp [TV.refs] at hr
    refine .slice sz f hl hcap he ⟨hs.none, fun ad ha => ⟨(hs.some ad ha).1, fun h0 => held _ _ ((hs.some ad ha).2 h0)⟩, fun ho => ⟨(hs.ex ho).1, fun h0 => ?_⟩, fun id ver ho => ?_⟩ (fun ad i j ha _ hi hj => by rw [hw]; exact hc ad i j ha hcur hi hj)
      (fun i j e c h1 h2 => ih i j e c h1 h2 (refsL_iff.1 (he e (List.mem_of_getElem? h1)).2.1.1 c (List.mem_of_getElem? h2)) (noexL_iff.1 (he e (List.mem_of_getElem? h1)).2.1.2 c (List.mem_of_getElem? h2)))
    · subst ho
      cases es with
      | nil => exact absurd hl h0
      | cons _ _ => cases hn
    · subst ho; simp [TV.refs] at hr
  | bsl hp hl ho => intro hr; simp [TV.refs] at hr
  | nilm => intro _ _; exact .nilm
  | map hp => intro hr; simp [TV.refs] at hr
  | func hf hx hy _ _ ihx ihy =>
    rename_i fn x y a b _ _
    intro hr hn
    simp only [TV.refs] at hr
    simp only [TV.noex, Bool.and_eq_true] at hn
    have hfn : fnRef fn = 0 := by omega
    have ha : TV.refsL a = 0 := by omega
    have hb : TV.refsL b = 0 := by omega
    have hto : fnTo D fn = fnTo C fn ∧ fnOk D fn := by
      cases fn with
      | yield r => simp [fnRef] at hfn
      | _ => exact ⟨rfl, trivial⟩
    rw [← hto.1]
    exact .func hto.2 hx hy (fun i v t h1 h2 => ihx i v t h1 h2 (refsL_iff.1 ha t (List.mem_of_getElem? h2)) (noexL_iff.1 hn.1 t (List.mem_of_getElem? h2)))
      (fun i v t h1 h2 => ihy i v t h1 h2 (refsL_iff.1 hb t (List.mem_of_getElem? h2)) (noexL_iff.1 hn.2 t (List.mem_of_getElem? h2)))
  | nilf => intro _ _; exact .nilf
  | iface _ ih => intro hr hn; exact .iface (ih hr hn)
  | nili => intro _ _; exact .nili
  | agg hx _ ih => intro hr hn; exact .agg hx (fun i v t h1 h2 => ih i v t h1 h2 (refsL_iff.1 hr t (List.mem_of_getElem? h2)) (noexL_iff.1 hn t (List.mem_of_getElem? h2)))
  | tuple hx _ ih => intro hr hn; exact .tuple hx (fun i v t h1 h2 => ih i v t h1 h2 (refsL_iff.1 hr t (List.mem_of_getElem? h2)) (noexL_iff.1 hn t (List.mem_of_getElem? h2)))

theorem Rep.moveFlat (hw : D.w = C.w) (hz : D.fz = C.fz) {v : Value} {t : TV} (h : Rep C v t) (hf : t.flat = true) : Rep D v t := h.move hw hz (flat_refs hf) (flat_noex hf)
theorem RepL.moveFlat (hw : D.w = C.w) (hz : D.fz = C.fz) {vs : List Value} {ts : List TV} (h : RepL C vs ts) (hf : TV.flatL ts = true) : RepL D vs ts :=
  ⟨h.1, fun i v t hv ht => (h.2 i v t hv ht).moveFlat hw hz (flatL_iff.1 hf t (List.mem_of_getElem? ht))⟩

/-- The state with which a call begins that is to know nothing of its caller's. -/
def Ctx.alone (C : Ctx) : Ctx := { w := C.w, ents := [], loc := fun _ => 0, fz := C.fz, fe := fun _ => 0, base := C.w.heap.size }
theorem alone_ok (hok : Ok P E C) : Ok P E C.alone where
  lt r e he := by simp [Ctx.alone] at he
  inj r s e f he := by simp [Ctx.alone] at he
  obj r e he := by simp [Ctx.alone] at he
  fresh := hok.fresh
  base := Nat.le_refl _

/-- Back from it. -/
def Ctx.back (C D : Ctx) : Ctx := { w := D.w, ents := C.ents, loc := C.loc, fz := D.fz, fe := C.fe, base := C.base }
theorem back_ok (hok : Ok P E C) (hD : Ok P E D) (h : Adv C.alone D) : Adv C (C.back D) ∧ Ok P E (C.back D) := by
  have hg : Grew C (C.back D) := ⟨h.below, rfl, fun _ _ => rfl, Nat.le_refl _, fun _ _ => rfl, fun _ _ => rfl, fun b hb => h.fzb b hb⟩
  refine ⟨hg.adv hok, hg.ok hok hD.fresh (fun r e he hr => ?_) (fun r s e f he hf hr hs => ?_)⟩
  · have := (List.getElem?_eq_some_iff.1 (show C.ents[r]? = some e from he)).1
    omega
  · have := (List.getElem?_eq_some_iff.1 (show C.ents[r]? = some e from he)).1
    omega

def GBare (E : Env) : Prop := ∀ g, Bare (E.glob g)

theorem GOk.alone (hg : GOk E C) : GOk E C.alone := fun g => Rep.move (C := C) (D := C.alone) rfl rfl (hg g) rfl rfl
theorem GOk.adv (hg : GOk E C) (h : Adv C D) : GOk E D := fun g => h.rep _ _ (hg g)

/-! ### what the calls of a round of the evaluator come to -/
/-- what is deferred -/
def DefOk (C : Ctx) : Dfr → Deferred → Prop
  | .mark r, d => C.plain r ∧ d = { target := .collected (C.loc r), args := #[] }
  | .fn g vs, d => ∃ ys as, d = { target := .fn (.func g) ys, args := as } ∧ RepL C (as ++ ys).toList vs
def DefsOk (C : Ctx) : List Dfr → List Deferred → Prop
  | [], [] => True
  | x :: xs, d :: ds => DefOk C x d ∧ DefsOk C xs ds
  | _, _ => False
theorem DefOk.adv (h : Adv C D) {x : Dfr} {d : Deferred} (hx : DefOk C x d) : DefOk D x d := by
  cases x with
  | mark r => exact ⟨(h.plain r hx.1).1, by rw [(h.plain r hx.1).2]; exact hx.2⟩
  | fn g vs => obtain ⟨ys, as, h1, h2⟩ := hx; exact ⟨ys, as, h1, h.repL h2⟩
theorem DefsOk.adv (h : Adv C D) : ∀ {xs : List Dfr} {ds : List Deferred}, DefsOk C xs ds → DefsOk D xs ds
  | [], [], _ => trivial
  | [], _ :: _, hx => hx
  | _ :: _, [], hx => hx
  | _ :: _, _ :: _, ⟨h1, h2⟩ => ⟨h1.adv h, h2.adv h⟩
theorem DefsOk.nil_inv {ds : List Deferred} (h : DefsOk C [] ds) : ds = [] := by
  cases ds with
  | nil => rfl
  | cons _ _ => exact h.elim

structure StOk (P : Program) (E : Env) (C : Ctx) (a : Act) (fr : Tr TV) (σ : St) (n : Nat) : Prop where
  ok : Ok P E C
  ents : C.ents = σ.ents
  glob : GOk E C
  fr : FrOk C a fr
  size : n ≤ a.tmps.size
  defs : DefsOk C σ.defs a.defers

def ExitOk (D : Ctx) : TE → Exit → Prop
  | .normal, e => e = .normal
  | .exit i, e => e = .exit i
  | .ret, e => e = .ret
  | .pan v, e => ∃ val, e = .panic [{ v := val, recovered := false }] ∧ Rep D val v

/-- What a loop leaves. -/
def LoopPost (P : Program) (E : Env) (C : Ctx) (σ : St) (n : Nat) (outs : List Nat) (a : Ans) : Exit → Act → World → Prop :=
  fun e act w => ∃ D, Adv C D ∧ Ok P E D ∧ D.w = w ∧ D.ents = a.σ.ents ∧ Tame0 σ a.σ ∧ n ≤ act.tmps.size ∧ DefsOk D a.σ.defs act.defers ∧ RepS D act.tmps outs a.vs ∧ ExitOk D a.e e

structure RecOk (P : Program) (E : Env) (rec : Rec) : Prop where
  call : ∀ (C : Ctx) (σ : St) (f : FuncId) (args : List TV) (vs : Array Value) (a : Ans), Ok P E C → GOk E C → C.ents = σ.ents → σ.defs = [] → RepL C vs.toList args → rec (.call f args σ) = some a →
    (callFunc f vs).run P C.w = .ok (.enter f vs) C.w ∧ Calls P f vs C.w (AnsC P E C σ a)
  loop : ∀ (C : Ctx) (σ : St) (rd : Bool) (f : FuncId) (id : Nat) (ts : List TV) (a : Ans) (act : Act) (fn : Func) (c b : Code) (ins outs : List Nat) (F : Fence) (n : Nat), FW F → (F.round.isSome = rd) →
    Ok P E C → GOk E C → C.ents = σ.ents → DefsOk C σ.defs act.defers → fn.ntmps ≤ act.tmps.size → E.code f = some fn → fn.body = some c → findLoop id c = some b → E.live f id = some (ins, outs) →
    RepS C act.tmps ins ts → rec (.loop rd f id ts σ) = some a → LoopWp F n P b (LoopPost P E C σ fn.ntmps outs a) act C.w
  round : ∀ (C : Ctx) (σ : St) (r : Nat) (args : List TV) (vs : Array Value) (a : Ans), Ok P E C → GOk E C → C.ents = σ.ents → σ.defs = [] → RepL C vs.toList args → rec (.round r args σ) = some a →
    ∃ lp : Loop, C.w.heap[C.loc r]? = some (.loop lp) ∧ vs.size = lp.params.size ∧ ∀ (F : Fence) (n : Nat), FW F →
      RoundIn F n P (C.loc r) lp.fn ((lp.params.zip vs).foldl (fun tmps (t, a) => tmps.setIfInBounds t a) lp.tmps) lp.assign lp.body C.w (AnsC P E C σ a)
  dcall : ∀ (C : Ctx) (σ : St) (f : FuncId) (args : List TV) (vs : Array Value) (a : Ans), Ok P E C → GOk E C → C.ents = σ.ents → σ.defs = [] → RepL C vs.toList args → rec (.dcall f args σ) = some a →
    (callFunc f vs).run P C.w = .ok (.enter f vs) C.w ∧ ∀ (n : Nat) (u : FrameMode), CallsDIn Fence.wide n P f vs u C.w fun e u' w' => u' = u ∧ AnsC P E C σ a e w'

/-! ### calls -/
theorem bindR_some {R : Type} {q : Option Ans} {K : Ans → Option R} {r : R} (h : bindR q K = some r) : ∃ a, q = some a ∧ K a = some r := by
  cases q with
  | none => cases h
  | some a => exact ⟨a, rfl, h⟩

/-- What an entered function comes to, for its caller. -/
def CallPost {R : Type} (P : Program) (E : Env) (C : Ctx) (σ : St) (K KP : TV → St → Option R) (r : R) (e : Ending) (w' : World) : Prop :=
  ∃ D v σ' val, Adv C D ∧ Ok P E D ∧ D.w = w' ∧ D.ents = σ'.ents ∧ Tame σ σ' ∧ Rep D val v ∧
    ((e = .returned val ∧ K v σ' = some r) ∨ (e = .panicked [{ v := val, recovered := false }] ∧ KP v σ' = some r))

theorem enterK_sound {R : Type} (hE : EnvOk P E) {rec : Rec} (hrec : RecOk P E rec) {σ : St} (hok : Ok P E C) (hg : GOk E C) (hc : C.ents = σ.ents) {f : FuncId} {args : List TV} {vs : Array Value} (hvs : RepL C vs.toList args)
    {K KP : TV → St → Option R} {r : R} (h : enterK E rec f args σ K KP = some r) : Invoked P f vs C.w (CallPost P E C σ K KP r) := by
  unfold enterK at h
  split at h
  · rename_i g hgx
    unfold pextK at h
    split at h
    · rename_i v hq
      refine (hE.pext f g hgx C σ args vs v σ hok hg hc hvs (by simp only [hq])).mono fun e w' => ?_
      rintro ⟨D, val, rfl, h1, h2, h3, h4, h5, h6⟩
      exact ⟨D, v, σ, val, h1, h2, h3, h4, h5, h6, .inl ⟨rfl, h⟩⟩
    · cases h
  split at h
  · rename_i g hgx
    unfold extK at h
    split at h
    · rename_i v σ' hq
      refine (hE.ext f g hgx C σ args vs v σ' hok hg hc hvs hq).mono fun e w' => ?_
      rintro ⟨D, val, rfl, h1, h2, h3, h4, h5, h6⟩
      exact ⟨D, v, σ', val, h1, h2, h3, h4, h5, h6, .inl ⟨rfl, h⟩⟩
    · cases h
  · obtain ⟨C1, args1, σ1, hadv1, hok1, hw1, hents1, htame1, hvs1, h1⟩ := freezeLK_sound args hok hc hvs h
    rw [← hw1]
    split at h1
    · -- a call that knows nothing of its caller
      obtain ⟨hflat, h2⟩ := tst_none h1
      obtain ⟨a, ha, h3⟩ := bindR_some h2
      have hcall := hrec.call C1.alone ⟨[], false, []⟩ f args1 vs a (alone_ok hok1) ((hg.adv hadv1).alone) rfl rfl (RepL.moveFlat (C := C1) (D := C1.alone) rfl rfl hvs1 hflat) ha
      refine Invoked.mono (.inr ⟨f, vs, _, hcall.1, hcall.2⟩) fun e w' => ?_
      rintro ⟨D, hD1, hD2, hD3, hD4, hD5, hD6⟩
      obtain ⟨hb1, hb2⟩ := back_ok hok1 hD2 hD1
      split at h3
      · rename_i v he hv
        rw [he, hv] at hD6
        obtain ⟨val, rfl, hrv⟩ := hD6
        obtain ⟨hvf, h4⟩ := tst_none h3
        exact ⟨C1.back D, v, σ1, val, hadv1.trans hb1, hb2, hD3, hents1, htame1, Rep.moveFlat (C := D) (D := C1.back D) rfl rfl hrv hvf, .inl ⟨rfl, h4⟩⟩
      · rename_i v he
        rw [he] at hD6
        obtain ⟨val, rfl, hrv⟩ := hD6
        obtain ⟨hvf, h4⟩ := tst_none h3
        exact ⟨C1.back D, v, σ1, val, hadv1.trans hb1, hb2, hD3, hents1, htame1, Rep.moveFlat (C := D) (D := C1.back D) rfl rfl hrv hvf, .inr ⟨rfl, h4⟩⟩
      · cases h3
    · -- a call in its caller's state
      obtain ⟨a, ha, h3⟩ := bindR_some h1
      have hcall := hrec.call C1 ⟨σ1.ents, false, []⟩ f args1 vs a hok1 (hg.adv hadv1) hents1 rfl hvs1 ha
      refine Invoked.mono (.inr ⟨f, vs, _, hcall.1, hcall.2⟩) fun e w' => ?_
      rintro ⟨D, hD1, hD2, hD3, hD4, hD5, hD6⟩
      have hlen : C1.ents.length = σ1.ents.length := by rw [hents1]
      have whole : Tame σ1 ⟨a.σ.ents, σ1.esc || a.σ.esc, σ1.defs⟩ := by
        refine ⟨rfl, hD5.len, fun hesc => ?_⟩
        have hesc' : (σ1.esc || a.σ.esc) = false := hesc
        rw [Bool.or_eq_false_iff] at hesc'
        exact ⟨hesc'.1, (hD5.esc hesc'.2).2⟩
      split at h3
      · rename_i v he hv
        rw [he, hv] at hD6
        obtain ⟨val, rfl, hrv⟩ := hD6
        rcases tst_some h3 with ⟨hb, h4⟩ | ⟨_, h4⟩
        · simp only [Bool.and_eq_true, Bool.not_eq_true'] at hb
          have hle := Nat.le_of_ble_eq_true hb.2
          have hbd : Below0 C1.ents.length D.ents := by
            rw [hD4]
            exact (hD5.esc hb.1).2 _ (by rw [hlen]; exact Nat.le_refl _) (by have := below0_start hok1; rw [hents1] at this ⊢; exact this)
          refine ⟨D.trunc C1.ents.length, v, ⟨a.σ.ents.take σ1.ents.length, σ1.esc, σ1.defs⟩, val, hadv1.trans (trunc_adv hD1), trunc_ok hD2 hbd, hD3, ?_, htame1.trans ⟨rfl, ?_, fun hesc => ⟨hesc, fun n hn hbn => ?_⟩⟩, hrv.trunc (by rw [hlen]; exact hle), .inl ⟨rfl, h4⟩⟩
          · show D.ents.take _ = _
            rw [hD4, hlen]
          · show _ ≤ (a.σ.ents.take _).length
            rw [List.length_take]
            have : σ1.ents.length ≤ a.σ.ents.length := hD5.len
            omega
          · intro s x hs hx
            have hx' : (a.σ.ents.take σ1.ents.length)[s]? = some x := hx
            rw [List.getElem?_take] at hx'
            split at hx'
            · exact (hD5.esc hb.1).2 n hn hbn s x hs hx'
            · cases hx'
        · exact ⟨D, v, ⟨a.σ.ents, σ1.esc || a.σ.esc, σ1.defs⟩, val, hadv1.trans hD1, hD2, hD3, hD4, htame1.trans whole, hrv, .inl ⟨rfl, h4⟩⟩
      · rename_i v he
        rw [he] at hD6
        obtain ⟨val, rfl, hrv⟩ := hD6
        exact ⟨D, v, ⟨a.σ.ents, σ1.esc || a.σ.esc, σ1.defs⟩, val, hadv1.trans hD1, hD2, hD3, hD4, htame1.trans whole, hrv, .inr ⟨rfl, h3⟩⟩
      · cases h3
end
end Go.Tv

/- Operations, regions. -/
namespace Go.Tv
open Go Go.RowKit

section
variable {P : Program} {E : Env} {C D : Ctx}

theorem Act.put_some (a : Act) (d : Nat) (v : Value) : a.put (some d) v = { tmps := a.tmps.setIfInBounds d v, defers := a.defers } := rfl

theorem callK_sound {R : Type} (hE : EnvOk P E) {rec : Rec} (hrec : RecOk P E rec) {σ : St} (hok : Ok P E C) (hg : GOk E C) (hc : C.ents = σ.ents) {fv : TV} {fval : Value} {args : List TV} {vs : Array Value} (hf : Rep C fval fv) (hvs : RepL C vs.toList args)
    {K KP : TV → St → Option R} {r : R} (h : callK E rec fv args σ K KP = some r) :
    (∃ g xs ys, fval = .func (.func g) xs ys ∧ Invoked P g (xs ++ vs ++ ys) C.w (CallPost P E C σ K KP r)) ∨
    (∃ l lp, fval = .func (.yield l) #[] #[] ∧ C.w.heap[l]? = some (.loop lp) ∧ vs.size = lp.params.size ∧ ∀ (F : Fence) (n : Nat), FW F →
      RoundIn F n P l lp.fn ((lp.params.zip vs).foldl (fun tmps (t, a) => tmps.setIfInBounds t a) lp.tmps) lp.assign lp.body C.w (CallPost P E C σ K KP r)) := by
  unfold callK at h
  split at h
  · rename_i g first captured
    generalize hfn : Fn.func g = fn at hf
    cases hf with
    | func h1 h2 h3 h4 h5 =>
      subst hfn
      rename_i xs ys
      refine .inl ⟨g, xs, ys, rfl, enterK_sound hE hrec hok hg hc ?_ h⟩
      have e : (xs ++ vs ++ ys).toList = xs.toList ++ vs.toList ++ ys.toList := by simp
      rw [e]
      exact RepL.append (RepL.append ⟨h2, h4⟩ hvs) ⟨h3, h5⟩
  · rename_i l
    obtain ⟨a, ha, h1⟩ := bindR_some h
    generalize hfn : Fn.yield l = fn at hf
    cases hf with
    | func k1 k2 k3 k4 k5 =>
      subst hfn
      rename_i xs ys
      have hx : xs = #[] := by simpa using k2
      have hy : ys = #[] := by simpa using k3
      subst hx; subst hy
      obtain ⟨lp, m1, m2, m3⟩ := hrec.round C { σ with defs := [] } l args vs a hok hg (by exact hc) rfl hvs ha
      refine .inr ⟨C.loc l, lp, rfl, m1, m2, fun F n hF => (m3 F n hF).mono fun e w' => ?_⟩
      rintro ⟨D, n1, n2, n3, n4, n5, n6⟩
      have ht : Tame σ { a.σ with defs := σ.defs } := ⟨rfl, n5.len, n5.esc⟩
      split at h1
      · rename_i v he hv
        rw [he, hv] at n6
        obtain ⟨val, rfl, hr⟩ := n6
        exact ⟨D, v, { a.σ with defs := σ.defs }, val, n1, n2, n3, n4, ht, hr, .inl ⟨rfl, h1⟩⟩
      · rename_i v he
        rw [he] at n6
        obtain ⟨val, rfl, hr⟩ := n6
        exact ⟨D, v, { a.σ with defs := σ.defs }, val, n1, n2, n3, n4, ht, hr, .inr ⟨rfl, h1⟩⟩
      · cases h1
  · cases h

theorem evalOp_sound {R : Type} (hE : EnvOk P E) {rec : Rec} (hrec : RecOk P E rec) {F : Fence} {n : Nat} (hF : FW F) {rd d : Bool} {sz : Nat} {o : Oper} (hnd : ∀ c, o.op ≠ .defer c) {a : Act} {fr : Tr TV} {σ : St}
    (hst : StOk P E C a fr σ sz) {K KP : TV → St → Option R} {r : R} (h : evalOp E rec rd d o fr σ K KP = some r) {next : Act → World → Prop} {Q : Exit → Act → World → Prop}
    (hK : ∀ D v σ' val, Adv C D → Ok P E D → D.ents = σ'.ents → Tame σ σ' → Rep D val v → K v σ' = some r → next (a.put o.dst val) D.w)
    (hKP : ∀ D v σ' val, Adv C D → Ok P E D → D.ents = σ'.ents → Tame σ σ' → Rep D val v → KP v σ' = some r → Q (.panic [{ v := val, recovered := false }]) a D.w) : o.wpIn F n P a C.w next Q := by
  refine ⟨fun f _ => hF.fn f, ?_⟩
  rw [Oper.semAt_eq _ _ _ hnd]
  cases hp : plainOp o.op with
  | true =>
    rcases evalOp_plain hE.toEnvOk0 hp hst.ok hst.ents hst.glob hst.fr h with ⟨D, val, v, σ', hrun, h1, h2, h3, h4, h5, h6⟩ | ⟨val, v, hrun, h1, h2⟩
    · rcases hrun with hrun | ⟨hrun, rfl⟩
      · rw [hrun]; exact hK D v σ' val h1 h2 h3 h4 h5 h6
      · rw [hrun]; exact hK D v σ' _ h1 h2 h3 h4 h5 h6
    · rw [hrun]; exact hKP C v σ val (Adv.refl C) hst.ok hst.ents (Tame.refl σ) h1 h2
  | false =>
    obtain ⟨x, args, ats, ho⟩ : ∃ x args ats, o.op = .call { callee := .value x, args := args, argTypes := ats } := by
      cases hop : o.op with
      | call c =>
        cases c with
        | mk callee args ats =>
          cases callee with
          | value x => exact ⟨x, args, ats, rfl⟩
          | _ => rw [hop] at hp; cases hp
      | defer c => exact absurd hop (hnd c)
      | _ => rw [hop] at hp; cases hp
    unfold evalOp at h
    rw [ho] at h
    simp only at h
    have hx := rep_opd (a := a) hst.glob hst.fr x
    have hargs : RepL C (args.map a.eval).toList (opds E fr args.toList) := by
      have := rep_opds (a := a) hst.glob hst.fr args.toList
      simpa using this
    rcases callK_sound hE hrec hst.ok hst.glob hst.ents hx hargs h with ⟨g, xs, ys, hfv, hinv⟩ | ⟨l, lp, hfv, hlp, hps, hround⟩
    · have hrun : (execOp a.eval o).run P C.w = (callFunc g (xs ++ args.map a.eval ++ ys)).run P C.w := by
        simp only [execOp, ho, resolve, hfv, Deferred.ofValue, Sem.run_bind, Sem.run_pure, Result.andThen_ok, invoke]
      rw [hrun]
      rcases hinv with ⟨val, w', hr, D, v, σ', val', h1, h2, h3, h4, h5, h6, h7⟩ | ⟨g', us, w', hr, hcalls⟩
      · rw [hr]
        rcases h7 with ⟨he, h8⟩ | ⟨he, h8⟩
        · cases he
          show next (a.put o.dst val) w'
          rw [← h3]; exact hK D v σ' _ h1 h2 h4 h5 h6 h8
        · cases he
      · rw [hr, Oper.uponIn_enter]
        refine ⟨(fun hd => by rw [hF.depth] at hd; cases hd), hF.calls (hcalls.mono fun e w'' => ?_)⟩
        rintro ⟨D, v, σ', val', h1, h2, h3, h4, h5, h6, h7⟩
        rcases h7 with ⟨rfl, h8⟩ | ⟨rfl, h8⟩
        · show next (a.put o.dst val') w''
          rw [← h3]; exact hK D v σ' _ h1 h2 h4 h5 h6 h8
        · show Q _ a w''
          rw [← h3]; exact hKP D v σ' _ h1 h2 h4 h5 h6 h8
    · have hrun : (execOp a.eval o).run P C.w = (Instr.yield l (args.map a.eval)).run P C.w := by
        simp only [execOp, ho, resolve, hfv, Deferred.ofValue, Sem.run_bind, Sem.run_pure, Result.andThen_ok, invoke, Array.empty_append]
      rw [hrun, run_yield hlp hps, Oper.uponIn_round]
      refine ⟨(fun hd => by rw [hF.depth] at hd; cases hd), (hround F (n - 1) hF).mono fun e w'' => ?_⟩
      rintro ⟨D, v, σ', val', h1, h2, h3, h4, h5, h6, h7⟩
      rcases h7 with ⟨rfl, h8⟩ | ⟨rfl, h8⟩
      · show next (a.put o.dst val') w''
        rw [← h3]; exact hK D v σ' _ h1 h2 h4 h5 h6 h8
      · show Q _ a w''
        rw [← h3]; exact hKP D v σ' _ h1 h2 h4 h5 h6 h8

/-- A state after a step. -/
theorem StOk.step {a : Act} {fr : Tr TV} {σ σ' : St} {sz : Nat} (hst : StOk P E C a fr σ sz) (h1 : Adv C D) (h2 : Ok P E D) (h3 : D.ents = σ'.ents) (h4 : Tame σ σ') : StOk P E D a fr σ' sz :=
  ⟨h2, h3, hst.glob.adv h1, hst.fr.ext h1.rep, hst.size, by rw [h4.defs]; exact hst.defs.adv h1⟩

theorem StOk.put {a : Act} {fr : Tr TV} {σ : St} {sz : Nat} (hst : StOk P E C a fr σ sz) (hsz : sz < 4096) {dst : Option Tmp} (hd : ∀ d, dst = some d → d < sz) {v : TV} {val : Value} (hr : Rep C val v) :
    StOk P E C (a.put dst val) (putT fr dst v) σ sz := by
  cases dst with
  | none => exact hst
  | some d =>
    have hlt : Nat.lt d sz := hd d rfl
    have hlt' : Nat.succ d ≤ sz := hlt
    exact ⟨hst.ok, hst.ents, hst.glob, hst.fr.set hr (Nat.lt_of_lt_of_le hlt hst.size) (by omega) _, by show sz ≤ (a.tmps.setIfInBounds d val).size; rw [Array.size_setIfInBounds]; exact hst.size, hst.defs⟩

theorem opFit_dst {sz : Nat} {o : Oper} (h : opFit sz o = true) : ∀ d, o.dst = some d → d < sz := by
  intro d hd
  unfold opFit at h
  rw [hd] at h
  simpa using h

/-- A deferred call is laid. -/
theorem evalOp_defer {R : Type} {rec : Rec} {F : Fence} {n : Nat} (hF : FW F) {rd : Bool} (hro : F.round.isSome = rd) {sz : Nat} {o : Oper} {c : Call} (ho : o.op = .defer c) {a : Act} {fr : Tr TV} {σ : St}
    (hst : StOk P E C a fr σ sz) {K KP : TV → St → Option R} {r : R} (h : evalOp E rec rd false o fr σ K KP = some r) {next : Act → World → Prop} {Q : Exit → Act → World → Prop}
    (hK : ∀ D a' σ', StOk P E D a' fr σ' sz → Adv C D → Tame0 σ σ' → K .undef σ' = some r → next (a'.put o.dst Go.undef) D.w) : o.wpIn F n P a C.w next Q := by
  unfold evalOp at h
  rw [ho] at h
  simp only at h
  cases c with
  | mk callee args ats =>
    cases rd with
    | true => cases h
    | false =>
      cases callee with
      | builtin b => cases h
      | invoke x m => cases h
      | value x =>
        simp only at h
        have hx := rep_opd (a := a) hst.glob hst.fr x
        generalize opd E fr x = fv at h hx
        cases fv <;> first | (cases h; done) | skip
        rename_i fn xs ys
        cases fn <;> first | (cases h; done) | skip
        rename_i g
        simp only at h
        have hnone : F.round = none := by
          cases hr : F.round with
          | none => rfl
          | some l => rw [hr] at hro; cases hro
        have hargs : RepL C (args.map a.eval).toList (opds E fr args.toList) := by
          have := rep_opds (a := a) hst.glob hst.fr args.toList
          simpa using this
        generalize hfv : a.eval x = fval at hx
        generalize hfn : Fn.func g = fn' at hx
        cases hx with
        | func h1 h2 h3 h4 h5 =>
          subst hfn
          rename_i vx vy
          have hall : RepL C (vx ++ args.map a.eval ++ vy).toList (xs ++ opds E fr args.toList ++ ys) := by
            have e : (vx ++ args.map a.eval ++ vy).toList = vx.toList ++ (args.map a.eval).toList ++ vy.toList := by simp
            rw [e]
            exact RepL.append (RepL.append ⟨h2, h4⟩ hargs) ⟨h3, h5⟩
          obtain ⟨C1, vs1, σ1, hadv1, hok1, hw1, hents1, htame1, hvs1, h6⟩ := freezeLK_sound _ hst.ok hst.ents hall h
          refine ⟨fun f _ => hF.fn f, ?_⟩
          rw [hnone, Oper.semAt_none]
          have hrun : (execOp a.eval o).run P C.w = .ok (.defer { target := .fn (.func g) vy, args := vx ++ args.map a.eval }) C.w := by
            simp only [execOp, ho, resolve, hfv, fnTo, Deferred.ofValue, Sem.run_bind, Sem.run_pure, Result.andThen_ok]
          rw [hrun, Oper.uponIn_defer]
          have := hK C1 { a with defers := { target := .fn (.func g) vy, args := vx ++ args.map a.eval } :: a.defers } { σ1 with defs := .fn g vs1 :: σ1.defs } ⟨hok1, hents1, hst.glob.adv hadv1, hst.fr.ext hadv1.rep, hst.size,
            ⟨⟨vy, _, rfl, hvs1⟩, by show DefsOk C1 σ1.defs a.defers; rw [htame1.defs]; exact hst.defs.adv hadv1⟩⟩ hadv1 ⟨htame1.len, htame1.esc⟩ h6
          rw [hw1] at this
          exact this

/-- Is it wanted? The machine and the evaluator agree. -/
theorem wantK_sound {R : Type} {ops : Array Oper} {o : Oper} {a : Act} {fr : Tr TV} (hf : FrOk C a fr) {yes no : Option R} {r : R} (h : wantK ops o fr yes no = some r) :
    (Region.wanted o (yielded ops a.tmps) = true ∧ yes = some r) ∨ (Region.wanted o (yielded ops a.tmps) = false ∧ no = some r) := by
  unfold wantK at h
  unfold Region.wanted
  split at h
  · rename_i hg
    rw [hg]
    exact .inl ⟨rfl, h⟩
  · rename_i j want hg
    rw [hg]
    simp only
    have hy : ∀ v, yieldT ops fr j = v → v ≠ .undef → ∃ val, Rep C val v ∧ yielded ops a.tmps j = (match val with | .bool b => some b | _ => none) := by
      intro v hv hne
      unfold yieldT at hv
      unfold yielded
      cases hoj : ops[j]? with
      | none => rw [hoj] at hv; exact absurd hv.symm hne
      | some oj =>
        rw [hoj] at hv
        simp only [Option.bind_some] at hv ⊢
        cases hd : oj.dst with
        | none => rw [hd] at hv; exact absurd hv.symm hne
        | some t =>
          rw [hd] at hv
          simp only at hv
          have ht := hf t
          rw [hv] at ht
          simp only [Option.bind_some]
          refine ⟨_, ht, ?_⟩
          rw [Array.getD_eq_getD_getElem?]
          cases hx : a.tmps[t]? with
          | none => rfl
          | some x => cases x <;> rfl
    split at h
    · rename_i b hb
      obtain ⟨val, hr, hyv⟩ := hy _ hb (by simp)
      cases hr
      simp only at hyv
      rw [hyv]
      split at h
      · cases b
        · exact .inr ⟨rfl, h⟩
        · exact .inl ⟨rfl, h⟩
      · cases b
        · exact .inl ⟨rfl, h⟩
        · exact .inr ⟨rfl, h⟩
    · rename_i hb
      obtain ⟨val, hr, hyv⟩ := hy _ hb (by simp)
      cases hr
      simp only at hyv
      rw [hyv]
      exact .inr ⟨by cases want <;> rfl, h⟩
    · cases h

theorem evalOps_sound {R : Type} (hE : EnvOk P E) {rec : Rec} (hrec : RecOk P E rec) {F : Fence} {n : Nat} (hF : FW F) {rd : Bool} (hro : F.round.isSome = rd) {sz : Nat} (hsz : sz < 4096) {ops : Array Oper} {K : Tr TV → St → Option R} {KP : TV → Tr TV → St → Option R} {r : R} {Q : Exit → Act → World → Prop} :
    ∀ (os pre : List Oper), ops.toList = pre ++ os → (∀ o ∈ os, opFit sz o = true) → ∀ {C : Ctx} {a : Act} {fr : Tr TV} {σ : St}, StOk P E C a fr σ sz → evalOps E rec rd ops os fr σ K KP = some r →
      (∀ D a' fr' σ', StOk P E D a' fr' σ' sz → Adv C D → Tame0 σ σ' → K fr' σ' = some r → Q .normal a' D.w) →
      (∀ D a' fr' σ' v val, StOk P E D a' fr' σ' sz → Adv C D → Tame0 σ σ' → Rep D val v → KP v fr' σ' = some r → Q (.panic [{ v := val, recovered := false }]) a' D.w) →
      wpOpsIn F n P ops Q (List.range' pre.length os.length) a C.w
  | [], pre, _, _, C, a, fr, σ, hst, h, hK, _ => hK C a fr σ hst (Adv.refl C) (Tame0.refl σ) h
  | o :: os, pre, hops, hfit, C, a, fr, σ, hst, h, hK, hKP => by
    have hget : ops[pre.length]? = some o := by
      rw [← Array.getElem?_toList, hops]; simp
    have hrange : List.range' pre.length (o :: os).length = pre.length :: List.range' (pre ++ [o]).length os.length := by
      simp [List.range'_succ]
    rw [hrange]
    simp only [wpOpsIn, hget]
    have hfo := hfit o List.mem_cons_self
    have hrest : ∀ o' ∈ os, opFit sz o' = true := fun o' ho' => hfit o' (List.mem_cons_of_mem _ ho')
    have hops' : ops.toList = (pre ++ [o]) ++ os := by rw [hops]; simp
    unfold evalOps at h
    rcases wantK_sound hst.fr h with ⟨hw, h1⟩ | ⟨hw, h1⟩
    · rw [if_pos hw]
      by_cases hdf : ∃ c, o.op = .defer c
      · obtain ⟨c, hdf⟩ := hdf
        refine evalOp_defer hF hro hdf hst h1 (fun D a' σ' h2 h3 h5 h7 => ?_)
        exact evalOps_sound hE hrec hF hro hsz os (pre ++ [o]) hops' hrest (h2.put hsz (opFit_dst hfo) (.undef _)) h7
          (fun D' a' fr' σ'' k1 k2 k3 k4 => hK D' a' fr' σ'' k1 (h3.trans k2) (h5.trans k3) k4)
          (fun D' a' fr' σ'' v' val' k1 k2 k3 k4 k5 => hKP D' a' fr' σ'' v' val' k1 (h3.trans k2) (h5.trans k3) k4 k5)
      refine evalOp_sound hE hrec hF (fun c hc => hdf ⟨c, hc⟩) hst h1 (fun D v σ' val h2 h3 h4 h5 h6 h7 => ?_) (fun D v σ' val h2 h3 h4 h5 h6 h7 => ?_)
      · exact evalOps_sound hE hrec hF hro hsz os (pre ++ [o]) hops' hrest ((hst.step h2 h3 h4 h5).put hsz (opFit_dst hfo) h6) h7
          (fun D' a' fr' σ'' k1 k2 k3 k4 => hK D' a' fr' σ'' k1 (h2.trans k2) (h5.t0.trans k3) k4)
          (fun D' a' fr' σ'' v' val' k1 k2 k3 k4 k5 => hKP D' a' fr' σ'' v' val' k1 (h2.trans k2) (h5.t0.trans k3) k4 k5)
      · exact hKP D a fr σ' v val (hst.step h2 h3 h4 h5) h2 h5.t0 h6 h7
    · rw [if_neg (by rw [hw]; simp)]
      refine ⟨fun f _ => hF.fn f, ?_⟩
      have hu : Rep C Go.undef (.tuple []) := Rep.mkTuple RepL.nil
      exact evalOps_sound hE hrec hF hro hsz os (pre ++ [o]) hops' hrest (hst.put hsz (opFit_dst hfo) hu) h1 hK hKP
end
end Go.Tv

/- Regions whose order is drawn: operations that do not look at the state, or do not change it. -/
namespace Go.Tv
open Go Go.RowKit

/-- 'f' gives its follower one thing, whatever the follower. -/
def Gen {X : Type} (f : ∀ R : Type, (X → Option R) → Option R) : Prop := ∀ (R : Type) (K : X → Option R) (r : R), f R K = some r → ∃ x, K x = some r ∧ ∀ (R' : Type) (K' : X → Option R'), f R' K' = K' x

theorem gen_tst {X : Type} {b : Bool} {f : ∀ R : Type, (X → Option R) → Option R} (h : Gen f) : Gen fun R K => tst b (f R K) none := by
  intro R K r hr
  cases b with
  | true => exact h R K r hr
  | false => cases hr
theorem gen_tst2 {X : Type} {b : Bool} {f g : ∀ R : Type, (X → Option R) → Option R} (h : Gen f) (h' : Gen g) : Gen fun R K => tst b (f R K) (g R K) := by
  intro R K r hr
  cases b with
  | true => exact h R K r hr
  | false => exact h' R K r hr
theorem gen_tstN {X : Type} {b : Bool} {f : ∀ R : Type, (X → Option R) → Option R} (h : Gen f) : Gen fun R K => tst b none (f R K) := by
  intro R K r hr
  cases b with
  | true => cases hr
  | false => exact h R K r hr
theorem gen_k {X : Type} (x : X) : Gen fun R (K : X → Option R) => K x := fun R K r hr => ⟨x, hr, fun _ _ => rfl⟩
theorem gen_none {X : Type} : Gen fun R (_ : X → Option R) => none := fun R K r hr => nomatch hr
theorem gen_bind {X Y : Type} {f : ∀ R : Type, (X → Option R) → Option R} {g : X → ∀ R : Type, (Y → Option R) → Option R} (hf : Gen f) (hg : ∀ x, Gen (g x)) : Gen fun R K => f R fun x => g x R K := by
  intro R K r hr
  obtain ⟨x, h1, h2⟩ := hf R _ r hr
  obtain ⟨y, h3, h4⟩ := hg x R K r h1
  exact ⟨y, h3, fun R' K' => (h2 R' _).trans (h4 R' K')⟩
theorem gen_map {X Y : Type} {f : ∀ R : Type, (X → Option R) → Option R} (hf : Gen f) (m : X → Y) : Gen fun R K => f R fun x => K (m x) := gen_bind hf fun x => gen_k (m x)

section
variable {E : Env}
theorem gen_layK (t : TypeId) : Gen fun R => layK (R := R) E t := by
  unfold layK
  cases E.lay t with
  | none => exact gen_none
  | some l => exact gen_k l
theorem gen_seeK (v : TV) : Gen fun R => seeK (R := R) v := by
  unfold seeK
  cases v <;> exact gen_k _
theorem gen_partK (ag : Bool) (n : Nat) (cs : List TV) : Gen fun R => partK (R := R) ag n cs := by
  unfold partK
  cases ag with
  | true => exact gen_tst (gen_k _)
  | false => cases cs with
    | nil => exact gen_none
    | cons c cs => exact gen_k c
theorem gen_intK (op : BinOp) (k : IntKind) (x y : Int) : Gen fun R => intK (R := R) op k x y := by
  unfold intK
  cases op <;> first | exact gen_k _ | exact gen_none | exact gen_tstN (gen_k _)
theorem gen_strK (op : BinOp) (x y : List UInt8) : Gen fun R => strK (R := R) op x y := by
  unfold strK
  cases op <;> first | exact gen_k _ | exact gen_none | exact gen_tst (gen_k _)
theorem gen_someK (b : Option Bool) : Gen fun R => someK (R := R) b := by
  unfold someK
  cases b with
  | none => exact gen_none
  | some b => exact gen_k b
theorem gen_eqlK (t : TypeId) (x y : TV) : Gen fun R => eqlK (R := R) E t x y := by
  unfold eqlK
  refine gen_bind (gen_layK t) fun l => ?_
  intro R K r hr
  generalize l.und = d at hr ⊢
  simp only at hr ⊢
  split at hr <;> first
    | (cases hr; done)
    | exact gen_tst (gen_someK _) R K r hr
    | exact gen_k _ R K r hr
theorem gen_binK (op : BinOp) (t : TypeId) (x y : TV) : Gen fun R => binK (R := R) E op t x y := by
  intro R K r hr
  simp only at hr ⊢
  unfold binK at hr ⊢
  split at hr
  · split at hr
    · exact gen_tstN (gen_k _) R K r hr
    · exact gen_tstN (gen_k _) R K r hr
    · rename_i k a j b _ h1 h2
      split at hr
      · rename_i hk
        obtain ⟨x, h3, h4⟩ := gen_intK op k a b R K r hr
        refine ⟨x, h3, fun R' K' => ?_⟩
        cases op <;> first | exact absurd rfl h1 | exact absurd rfl h2 | exact h4 R' K' | (rw [hk]; exact h4 R' K')
      · cases hr
  · exact gen_strK op _ _ R K r hr
  · rename_i h1 h2
    split at hr
    · obtain ⟨q, h3, h4⟩ := gen_eqlK t x y R _ r hr
      exact ⟨_, h3, fun R' K' => h4 R' _⟩
    · obtain ⟨q, h3, h4⟩ := gen_eqlK t x y R _ r hr
      exact ⟨_, h3, fun R' K' => h4 R' _⟩
    · cases hr

theorem gen_unK (op : UnOp) (x : TV) : Gen fun R => unK (R := R) op x := by
  intro R K r hr
  simp only at hr ⊢
  unfold unK at hr ⊢
  split at hr <;> first | (cases hr; done) | exact gen_k _ R K r hr
theorem gen_fieldAddrK (t : TypeId) (p : TV) (f : Nat) : Gen fun R => fieldAddrK (R := R) E t p f := by
  unfold fieldAddrK
  refine gen_bind (gen_layK t) fun l => ?_
  cases l.flds[f]? with
  | none => exact gen_none
  | some fd =>
    refine gen_tstN ?_
    cases p <;> first | exact gen_none | exact gen_k _ | exact gen_tst (gen_k _)
theorem gen_fieldK (t : TypeId) (x : TV) (f : Nat) : Gen fun R => fieldK (R := R) E t x f := by
  unfold fieldK
  refine gen_bind (gen_layK t) fun l => ?_
  cases l.flds[f]? with
  | none => exact gen_none
  | some fd => cases x <;> first | exact gen_none | exact gen_partK _ _ _
theorem gen_atK (es : List TV) (i : Nat) : Gen fun R => atK (R := R) es i := by
  unfold atK
  cases es[i]? with
  | none => exact gen_none
  | some e => exact gen_k e
theorem gen_indexK (t : TypeId) (x i : TV) : Gen fun R => indexK (R := R) E t x i := by
  unfold indexK
  refine gen_bind (gen_layK t) fun l => ?_
  cases i <;> first | exact gen_none | skip
  generalize l.und = d
  cases d <;> first | exact gen_none | skip
  · cases x <;> first | exact gen_none | skip
    refine gen_tst ?_
    split
    · exact gen_k _
    · exact gen_none
  · cases x <;> first | exact gen_none | skip
    exact gen_tst (gen_partK _ _ _)
theorem gen_maxK (op : Bool) (x y : TV) : Gen fun R => maxK (R := R) op x y := by
  intro R K r hr
  simp only at hr ⊢
  unfold maxK at hr ⊢
  split at hr
  · split at hr
    · rename_i h
      exact ⟨_, hr, fun R' K' => rfl⟩
    · cases hr
  · cases hr
theorem gen_buildK (place : Nat → Option (Nat × Nat)) : ∀ (ps : List (Nat × TV)) (cs : List TV), Gen fun R => buildK (R := R) place ps cs
  | [], cs => fun _ _ _ hr => ⟨cs, hr, fun _ _ => rfl⟩
  | (i, v) :: ps, cs => by
    show Gen fun R (K : List TV → Option R) => match place i with
      | some (off, sz) => tst (v.known && Nat.beq v.cells.length sz && Nat.ble (off + sz) cs.length) (buildK place ps (fillAt cs off v.cells) K) none
      | none => none
    cases place i with
    | none => exact gen_none
    | some p => exact gen_tst (gen_buildK place ps _)

theorem gen_run {X : Type} {f : ∀ R : Type, (X → Option R) → Option R} (hf : Gen f) {σ σ' : St} {m : X → TV} {v : TV} (h : f Ans (fun x => some ⟨.ret, [m x], σ⟩) = some ⟨.ret, [v], σ'⟩) :
    σ' = σ ∧ ∀ σ2, f Ans (fun x => some ⟨.ret, [m x], σ2⟩) = some ⟨.ret, [v], σ2⟩ := by
  obtain ⟨x, h1, h2⟩ := hf _ _ _ h
  cases h1
  exact ⟨rfl, fun σ2 => h2 _ _⟩

mutual
theorem freeze_flat {R : Type} {σ : St} : ∀ {v : TV} {K : TV → St → Option R}, v.flat = true → freezeK v σ K = K v σ
  | .iface t v, K, h => by
    unfold freezeK
    exact freeze_flat (v := v) h
  | .agg cs, K, h => by
    unfold freezeK
    exact freezeL_flat (vs := cs) h
  | .tuple cs, K, h => by
    unfold freezeK
    exact freezeL_flat (vs := cs) h
  | .slice .ex (_ :: _), _, h => nomatch h
  | .slice .ex [], _, _ => rfl
  | .slice .sh _, _, _ => rfl
  | .slice (.tk _ _) _, _, h => nomatch h
  | .view .ex _, _, _ => rfl
  | .view .sh _, _, _ => rfl
  | .view (.tk _ _) _, _, h => nomatch h
  | .bsl _ _ _ _ _, _, h => nomatch h
  | .undef, _, _ => rfl
  | .bool _, _, _ => rfl
  | .int _ _, _, _ => rfl
  | .str _, _, _ => rfl
  | .nilp, _, _ => rfl
  | .ptr _ _, _, _ => rfl
  | .nilm, _, _ => rfl
  | .map _, _, _ => rfl
  | .func _ _ _, _, _ => rfl
  | .nilf, _, _ => rfl
  | .nili, _, _ => rfl
theorem freezeL_flat {R : Type} {σ : St} : ∀ {vs : List TV} {K : List TV → St → Option R}, TV.flatL vs = true → freezeLK vs σ K = K vs σ
  | [], _, _ => by unfold freezeLK; rfl
  | v :: vs, K, h => by
    simp only [TV.flatL, Bool.and_eq_true] at h
    unfold freezeLK
    rw [freeze_flat h.1, freezeL_flat h.2]
end


/-- Whatever comes out has gone through the follower. -/
def Thru {X R : Type} (f : (X → Option R) → Option R) : Prop := ∀ (K : X → Option R) (r : R), f K = some r → ∃ x, K x = some r

theorem thru_run {X : Type} {f : (X → Option Ans) → Option Ans} (hf : Thru f) {σ σ' : St} {m : X → TV} {v : TV} (h : f (fun x => some ⟨.ret, [m x], σ⟩) = some ⟨.ret, [v], σ'⟩) : σ' = σ := by
  obtain ⟨x, h1⟩ := hf _ _ h
  cases h1; rfl

/-- An operation that does not look at the state. -/
theorem opRun_q {rec : Rec} {rd : Bool} {o : Oper} {fr : Tr TV} {σ σ' : St} {v : TV} (hk : kdOf E o = .q) (hd : drawFlat E o fr = true) (h : opRun E rec rd o fr σ = some ⟨.ret, [v], σ'⟩) :
    σ' = σ ∧ ∀ σ2, opRun E rec rd o fr σ2 = some ⟨.ret, [v], σ2⟩ := by
  unfold opRun evalOp at h ⊢
  unfold kdOf at hk
  unfold drawFlat at hd
  cases ho : o.op <;> simp only [ho] at h hk hd ⊢ <;> first | (cases hk; done) | skip
  case move x => exact gen_run (gen_seeK _) (m := fun v => v) h
  case assign x => exact gen_run (gen_seeK _) (m := fun v => v) h
  case pick c a b =>
    generalize opd E fr c = cv at h ⊢
    cases cv <;> first | (cases h; done) | exact gen_run (gen_tst2 (gen_seeK _) (gen_seeK _)) (m := fun v => v) h
  case build t ps =>
    refine gen_run (f := fun R (K : List TV → Option R) => layK E t fun l => tst l.zero.known (match l.und with
      | .struct _ => buildK (fldPlace l) (parts E fr ps.toList) l.zero.cells fun cs => K cs
      | .array _ _ => buildK (eltPlace l) (parts E fr ps.toList) l.zero.cells fun cs => K cs
      | _ => none) none) (gen_bind (gen_layK t) fun l => gen_tst ?_) (m := fun cs => TV.agg cs) h
    cases l.und <;> first | exact gen_none | exact gen_buildK _ _ _
  case buildSlice t n ps =>
    unfold layK at h ⊢
    cases hl : E.lay t with
    | none => rw [hl] at h; cases h
    | some l =>
      simp only [hl] at h hk ⊢
      unfold kdSlice at hk
      simp only at hk
      cases hf : l.eflat with
      | false => rw [hf] at hk; cases hk
      | true =>
        simp only [hf] at h ⊢
        generalize l.und = d at h ⊢
        cases d <;> first | (cases h; done) | skip
        refine gen_run (f := fun R (K : TV → Option R) => tst (l.ezero.known && Nat.beq l.ezero.cells.length l.esz && Nat.ble (n * l.esz) 16777216)
          (buildK (eltPlace l) (parts E fr ps.toList) (repl n l.ezero.cells) fun cs => tst (fitK l.eagg 0 n l.esz cs) (K (.slice .ex (chunks l.eagg l.esz n cs))) none) none) (gen_tst (gen_bind (gen_buildK _ _ _) fun cs => gen_tst (gen_k _))) (m := fun v => v) h
  case nilCheck x =>
    generalize opd E fr x = xv at h ⊢
    cases xv <;> first | (cases h; done) | (cases h; exact ⟨rfl, fun _ => rfl⟩) | skip
    rename_i fn a b
    cases fn <;> first | (cases h; done) | (cases h; exact ⟨rfl, fun _ => rfl⟩)
  case binOp op t x y ty => exact gen_run (gen_binK op t _ _) (m := fun v => v) h
  case unOp op t x => exact gen_run (gen_unK op _) (m := fun v => v) h
  case makeInterface t x =>
    unfold layK at h ⊢
    cases hl : E.lay t with
    | none => rw [hl] at h; cases h
    | some l =>
      simp only [hl] at h ⊢
      generalize l.und = d at h ⊢
      cases d <;> first | (cases h; done) | exact gen_run (gen_seeK _) (m := fun v => TV.iface t v) h
  case makeFunc fn a b =>
    cases fn <;> first | (cases h; done) | (cases h; exact ⟨rfl, fun _ => rfl⟩)
  case fieldAddr t x i => exact gen_run (gen_fieldAddrK t _ i) (m := fun v => v) h
  case field t x i => exact gen_run (gen_fieldK t _ i) (m := fun v => v) h
  case index t x i => exact gen_run (gen_indexK t _ _) (m := fun v => v) h
  case extract x i =>
    generalize opd E fr x = xv at h ⊢
    cases xv <;> first | (cases h; done) | exact gen_run (gen_atK _ _) (m := fun v => v) h
  case call c =>
    cases c with
    | mk callee args ats =>
      cases callee with
      | builtin b =>
        simp only at h hk ⊢
        cases b <;> first | (cases hk; done) | skip
        all_goals
          generalize opds E fr args.toList = xs at h ⊢
          generalize ats.toList = ts at h ⊢
          match xs, h with
          | [x, y], h => exact gen_run (gen_maxK _ _ _) (m := fun v => v) h
          | [], h => cases h
          | [_], h => cases h
          | _ :: _ :: _ :: _, h => cases h
      | invoke r m => cases hk
      | value x =>
        simp only at h hk hd ⊢
        cases x with
        | func f =>
          simp only at hk
          cases hpx : E.pext f with
          | some g =>
            simp only [opd, callK, enterK, hpx, List.nil_append, List.append_nil] at h ⊢
            unfold pextK at h ⊢
            cases hq : g (opds E fr args.toList) with
            | none => rw [hq] at h; cases h
            | some u => rw [hq] at h; simp only at h ⊢; cases h; exact ⟨rfl, fun _ => rfl⟩
          | none =>
          rw [hpx] at hk
          simp only at hk
          cases hi : E.iso f with
          | false => rw [hi] at hk; cases hk
          | true =>
            cases he : E.ext f with
            | some g => rw [hi, he] at hk; cases hk
            | none =>
              simp only [opd, callK, enterK, hpx, he, hi, List.nil_append, List.append_nil] at h ⊢
              rw [freezeL_flat hd] at h
              have hfz : ∀ σ2 : St, ∀ {R : Type} {K : List TV → St → Option R}, freezeLK (opds E fr args.toList) σ2 K = K (opds E fr args.toList) σ2 := fun σ2 => freezeL_flat hd
              simp only [hfz]
              obtain ⟨h0, h1⟩ := tst_none h
              rw [h0]
              unfold bindR at h1
              generalize rec (.call f (opds E fr args.toList) ⟨[], false, []⟩) = q at h1 ⊢
              cases q with
              | none => cases h1
              | some a =>
                simp only [tst, bindR] at h1 ⊢
                obtain ⟨e, vs, σa⟩ := a
                cases e with
                | ret =>
                  match vs, h1 with
                  | [u], h1 =>
                    simp only at h1 ⊢
                    obtain ⟨h2, h3⟩ := tst_none (b := u.flat) h1
                    cases h3
                    exact ⟨rfl, fun σ2 => by rw [h2]⟩
                  | [], h1 => cases h1
                  | _ :: _ :: _, h1 => cases h1
                | pan u =>
                  simp only at h1
                  cases hu : u.flat <;> rw [hu] at h1 <;> cases h1
                | normal => cases h1
                | exit i => cases h1
        | _ => cases hk

theorem thru_curK {X R : Type} {σ : St} {id ver : Nat} {f : Bool → Nat → (X → Option R) → Option R} (hf : ∀ p s, Thru (f p s)) : Thru fun K => curK σ id ver fun p s => f p s K := by
  intro K r h
  obtain ⟨p, s, _, h2⟩ := curK_some h
  exact hf p s K r h2
theorem thru_ownK {X R : Type} {σ : St} {o : Own} {f : (X → Option R) → Option R} (hf : Thru f) : Thru fun K => ownK σ o (f K) := by
  intro K r h
  cases o with
  | sh => exact hf K r h
  | ex => exact hf K r h
  | tk id ver => obtain ⟨p, s, _, h2⟩ := curK_some h; exact hf K r h2
theorem thru_k {X R : Type} (x : X) : Thru fun (K : X → Option R) => K x := fun K r h => ⟨x, h⟩
theorem thru_none {X R : Type} : Thru fun (_ : X → Option R) => none := fun K r h => nomatch h
theorem thru_tst {X R : Type} {b : Bool} {f : (X → Option R) → Option R} (h : Thru f) : Thru fun K => tst b (f K) none := fun K r hr => h K r (tst_none hr).2
theorem thru_bind {X Y R : Type} {f : (X → Option R) → Option R} {g : X → (Y → Option R) → Option R} (hf : Thru f) (hg : ∀ x, Thru (g x)) : Thru fun K => f fun x => g x K := by
  intro K r h
  obtain ⟨x, h1⟩ := hf _ _ h
  exact hg x K r h1
theorem thru_gen {X R : Type} {f : ∀ R : Type, (X → Option R) → Option R} (h : Gen f) : Thru (f R) := fun K r hr => let ⟨x, h1, _⟩ := h R K r hr; ⟨x, h1⟩
theorem thru_derefK {R : Type} (σ : St) (p : TV) : Thru fun (K : List TV → Option R) => derefK σ p K := by
  intro K r h
  unfold derefK at h
  split at h
  · split at h
    · exact ⟨_, h⟩
    · exact ⟨_, h⟩
    · cases h
  · exact thru_ownK (thru_k _) K r h
  · cases h
theorem thru_loadK {R : Type} (σ : St) (t : TypeId) (p : TV) : Thru fun (K : TV → Option R) => loadK E σ t p K := by
  intro K r h
  obtain ⟨l, _, h1⟩ := layK_some h
  obtain ⟨cs, h2⟩ := thru_derefK σ p _ _ h1
  exact thru_gen (gen_partK _ _ _) K r h2
theorem thru_indexAddrK {R : Type} (σ : St) (t : TypeId) (x i : TV) : Thru fun (K : TV → Option R) => indexAddrK E σ t x i K := by
  intro K r h
  obtain ⟨l, _, h1⟩ := layK_some h
  split at h1
  · split at h1
    · split at h1
      · have h2 := (tst_none h1).2
        exact thru_ownK (thru_bind (thru_gen (gen_atK _ _)) fun e => thru_tst (thru_k _)) K r h2
      · exact ⟨_, (tst_none h1).2⟩
      · cases h1
    · have h2 := (tst_none h1).2
      split at h2
      · exact ⟨_, h2⟩
      · exact ⟨_, (tst_none h2).2⟩
      · cases h2
    · cases h1
  · cases h1
theorem thru_strOfK {R : Type} (es : List TV) : Thru fun (K : List UInt8 → Option R) => strOfK es K := by
  intro K r h
  unfold strOfK at h
  split at h
  · exact ⟨_, h⟩
  · cases h
theorem thru_convK {R : Type} (σ : St) (s t : TypeId) (x : TV) : Thru fun (K : TV → Option R) => convK E s t σ x K := by
  intro K r h
  obtain ⟨ls, _, h⟩ := layK_some h
  obtain ⟨ld, _, h⟩ := layK_some h
  split at h
  · exact ⟨_, h⟩
  · exact ⟨_, h⟩
  · split at h
    · exact ⟨_, h⟩
    · cases h
  · split at h
    · exact ⟨_, h⟩
    · cases h
  · split at h
    · split at h
      · exact thru_ownK (thru_bind (thru_strOfK _) fun l => thru_k _) K r h
      · cases h
    · cases h
  · split at h
    · split at h
      · exact thru_bind (thru_derefK σ _) (fun cs => thru_tst (thru_bind (thru_strOfK _) fun l => thru_k _)) K r h
      · cases h
    · cases h
  · cases h
theorem thru_mapK {R X : Type} (σ : St) (m : TV) {f : Nat → TypeId → List (TV × TV) → (X → Option R) → Option R} (hf : ∀ a b c, Thru (f a b c)) : Thru fun K => mapK σ m fun a b c => f a b c K := by
  intro K r h
  unfold mapK at h
  split at h
  · split at h
    · exact hf _ _ _ K r h
    · cases h
  · cases h
theorem thru_lookupK {R : Type} (σ : St) (t : TypeId) (m k : TV) (ok : Bool) : Thru fun (K : TV → Option R) => lookupK E σ t m k ok K := by
  intro K r h
  obtain ⟨l, _, h1⟩ := layK_some h
  have h2 := (tst_none h1).2
  have key : ∀ (yes : TV → TV) (no : TV), (mapK σ m fun _ _ es => keyK E (E.lay l.key) k es (fun i => valAtK es i fun v => K (yes v)) (K no)) = some r → ∃ x, K x = some r := by
    intro yes no h3
    refine thru_mapK σ m (f := fun _ _ es K => keyK E (E.lay l.key) k es (fun i => valAtK es i fun v => K (yes v)) (K no)) (fun _ _ es K r h => ?_) K r h3
    simp only [keyK] at h
    cases hf : findKey E (E.lay l.key) k es 0 with
    | none => rw [hf] at h; cases h
    | some o =>
      rw [hf] at h
      cases o with
      | none => exact ⟨_, h⟩
      | some i =>
        simp only [valAtK] at h
        cases he : es[i]? with
        | none => rw [he] at h; cases h
        | some kv => rw [he] at h; exact ⟨_, h⟩
  cases ok with
  | true => cases m <;> first | exact ⟨_, h2⟩ | exact key (fun v => .tuple [v, .bool true]) _ h2
  | false => cases m <;> first | exact ⟨_, h2⟩ | exact key (fun v => v) _ h2
theorem thru_lenK {R : Type} (σ : St) (t : TypeId) (x : TV) : Thru fun (K : TV → Option R) => lenK E σ t x K := by
  intro K r h
  obtain ⟨l, _, h⟩ := layK_some h
  split at h <;> first | exact ⟨_, h⟩ | skip
  · split at h
    · exact ⟨_, h⟩
    · cases h
  · cases h

/-- An operation that does not change the state. -/
theorem opRun_l {rec : Rec} {rd : Bool} {o : Oper} {fr : Tr TV} {σ σ' : St} {v : TV} (hk : kdOf E o = .l) (h : opRun E rec rd o fr σ = some ⟨.ret, [v], σ'⟩) : σ' = σ := by
  unfold opRun evalOp at h
  unfold kdOf at hk
  cases ho : o.op <;> simp only [ho] at h hk <;> first | (cases hk; done) | skip
  case load t x => exact thru_run (thru_loadK σ t _) (m := fun v => v) h
  case convert s t x => exact thru_run (thru_convK σ s t _) (m := fun v => v) h
  case indexAddr t x i => exact thru_run (thru_indexAddrK σ t _ _) (m := fun v => v) h
  case lookup t m k ok => exact thru_run (thru_lookupK σ t _ _ ok) (m := fun v => v) h
  case buildSlice t n ps =>
    unfold kdSlice at hk
    split at hk
    · split at hk <;> cases hk
    · cases hk
  case call c =>
    cases c with
    | mk callee args ats =>
      cases callee with
      | builtin b =>
        simp only at h hk
        cases b <;> first | (cases hk; done) | skip
        generalize opds E fr args.toList = xs at h
        generalize ats.toList = ts at h
        match xs, ts, h with
        | [x], [t], h => exact thru_run (thru_lenK σ t x) (m := fun v => v) h
        | [], _, h => cases h
        | [_], [], h => cases h
        | [_], _ :: _ :: _, h => cases h
        | _ :: _ :: _, _, h => cases h
      | invoke r m => cases hk
      | value x =>
        cases x <;> first | (cases hk; done) | skip
        rename_i f
        simp only at hk
        split at hk
        · cases hk
        · split at hk <;> cases hk

/-! ### operands alone matter -/
theorem opds_congr {fr fr2 : Tr TV} : ∀ {xs : List Operand}, (∀ x ∈ xs, opd E fr x = opd E fr2 x) → opds E fr xs = opds E fr2 xs
  | [], _ => rfl
  | x :: xs, h => by simp only [opds]; rw [h x List.mem_cons_self, opds_congr fun y hy => h y (List.mem_cons_of_mem _ hy)]
theorem parts_congr {fr fr2 : Tr TV} : ∀ {xs : List (Nat × Operand)}, (∀ x ∈ xs, opd E fr x.2 = opd E fr2 x.2) → parts E fr xs = parts E fr2 xs
  | [], _ => rfl
  | (i, x) :: xs, h => by simp only [parts]; rw [h _ List.mem_cons_self, parts_congr fun y hy => h y (List.mem_cons_of_mem _ hy)]
theorem optOpd_congr {fr fr2 : Tr TV} {x : Option Operand} (h : ∀ y, x = some y → opd E fr y = opd E fr2 y) : optOpd E fr x = optOpd E fr2 x := by
  cases x with
  | none => rfl
  | some y => simp only [optOpd]; rw [h y rfl]

theorem opRun_defer {rec : Rec} {rd : Bool} {o : Oper} {fr : Tr TV} {σ : St} {c : Call} {x : Ans} (ho : o.op = .defer c) (h : opRun E rec rd o fr σ = some x) : False := by
  unfold opRun evalOp at h
  rw [ho] at h
  simp only at h
  cases rd <;> cases h

theorem opRun_congr {rec : Rec} {rd : Bool} {o : Oper} {fr fr2 : Tr TV} {σ : St} (hnd : ∀ c, o.op ≠ .defer c) (h : ∀ x, x ∈ o.op.operands.toList → opd E fr x = opd E fr2 x) : opRun E rec rd o fr σ = opRun E rec rd o fr2 σ := by
  unfold opRun evalOp
  cases ho : o.op <;> simp only [ho, Op.operands] at h ⊢ <;> first
    | rfl
    | (rw [h _ (by simp)]; done)
    | (rw [h _ (by simp), h _ (by simp)]; done)
    | (rw [h _ (by simp), h _ (by simp), h _ (by simp)]; done)
    | skip
  case build t ps => rw [parts_congr fun x hx => h x.2 (by simpa using ⟨x.1, Array.mem_toList_iff.1 hx⟩)]
  case buildSlice t n ps => rw [parts_congr fun x hx => h x.2 (by simpa using ⟨x.1, Array.mem_toList_iff.1 hx⟩)]
  case makeFunc fn a b => rw [opds_congr (xs := a.toList) fun x hx => h x (by simpa using Or.inl hx), opds_congr (xs := b.toList) fun x hx => h x (by simpa using Or.inr hx)]
  case makeMap t r => rw [optOpd_congr fun y hy => h y (by simp [hy])]
  case slice t x lo hi mx => rw [h x (by simp), optOpd_congr (x := lo) fun y hy => h y (by simp [hy]), optOpd_congr (x := hi) fun y hy => h y (by simp [hy]), optOpd_congr (x := mx) fun y hy => h y (by simp [hy])]
  case call c =>
    cases c with
    | mk callee args ats =>
      have ha : opds E fr args.toList = opds E fr2 args.toList := opds_congr fun x hx => h x (by simp only [Call.operands]; simpa using Or.inr hx)
      cases callee with
      | value f => simp only; rw [ha, h f (by simp [Call.operands])]
      | builtin b => simp only; rw [ha]
      | invoke r m => rfl
end

/-! ### equal values are the same -/
theorem Own.beq_eq {a b : Own} (h : a.beq b = true) : a = b := by
  cases a <;> cases b <;> first | rfl | (cases h; done) | skip
  simp only [Own.beq, Bool.and_eq_true] at h
  rw [Nat.eq_of_beq_eq_true h.1, Nat.eq_of_beq_eq_true h.2]
mutual
theorem TV.beq_eq : ∀ {a b : TV}, a.beq b = true → a = b
  | .undef, b, h => by cases b <;> first | rfl | (cases h; done)
  | .nilp, b, h => by cases b <;> first | rfl | (cases h; done)
  | .nilm, b, h => by cases b <;> first | rfl | (cases h; done)
  | .nilf, b, h => by cases b <;> first | rfl | (cases h; done)
  | .nili, b, h => by cases b <;> first | rfl | (cases h; done)
  | .bool x, b, h => by cases b <;> first | (cases h; done) | (simp only [TV.beq, beq_iff_eq] at h; rw [h])
  | .int j x, b, h => by cases b <;> first | (cases h; done) | (simp only [TV.beq, Bool.and_eq_true, decide_eq_true_eq] at h; rw [h.1, h.2])
  | .str x, b, h => by cases b <;> first | (cases h; done) | (simp only [TV.beq, beq_iff_eq] at h; rw [h])
  | .ptr x y, b, h => by cases b <;> first | (cases h; done) | (simp only [TV.beq, Bool.and_eq_true] at h; rw [Nat.eq_of_beq_eq_true h.1, Nat.eq_of_beq_eq_true h.2])
  | .view o as, b, h => by cases b <;> first | (cases h; done) | (simp only [TV.beq, Bool.and_eq_true] at h; rw [Own.beq_eq h.1, TV.beqL_eq h.2])
  | .slice o as, b, h => by cases b <;> first | (cases h; done) | (simp only [TV.beq, Bool.and_eq_true] at h; rw [Own.beq_eq h.1, TV.beqL_eq h.2])
  | .bsl p q r s t, b, h => by
    cases b <;> first | (cases h; done) | skip
    simp only [TV.beq, Bool.and_eq_true, beq_iff_eq] at h
    rw [Nat.eq_of_beq_eq_true h.1.1.1.1, Nat.eq_of_beq_eq_true h.1.1.1.2, Nat.eq_of_beq_eq_true h.1.1.2, Nat.eq_of_beq_eq_true h.1.2, h.2]
  | .map x, b, h => by cases b <;> first | (cases h; done) | (simp only [TV.beq] at h; rw [Nat.eq_of_beq_eq_true h])
  | .func f as bs, b, h => by
    cases b <;> first | (cases h; done) | skip
    simp only [TV.beq, Bool.and_eq_true, decide_eq_true_eq] at h
    rw [h.1.1, TV.beqL_eq h.1.2, TV.beqL_eq h.2]
  | .iface t x, b, h => by
    cases b <;> first | (cases h; done) | skip
    simp only [TV.beq, Bool.and_eq_true] at h
    rw [Nat.eq_of_beq_eq_true h.1, TV.beq_eq h.2]
  | .agg as, b, h => by cases b <;> first | (cases h; done) | (simp only [TV.beq] at h; rw [TV.beqL_eq h])
  | .tuple as, b, h => by cases b <;> first | (cases h; done) | (simp only [TV.beq] at h; rw [TV.beqL_eq h])
theorem TV.beqL_eq : ∀ {a b : List TV}, TV.beqL a b = true → a = b
  | [], b, h => by cases b <;> first | rfl | (cases h; done)
  | x :: xs, b, h => by
    cases b with
    | nil => cases h
    | cons y ys =>
      simp only [TV.beqL, Bool.and_eq_true] at h
      rw [TV.beq_eq h.1, TV.beqL_eq h.2]
end
end Go.Tv

/- Regions whose order is drawn. -/
namespace Go.Tv
open Go Go.RowKit

/-! ## steps -/
structure Stp where
  o : Oper
  w : Bool
  v : TV
  fr : Tr TV
  σ : St
  σ' : St

def Stp.isW (E : Env) (s : Stp) : Bool := s.w && Tv.isW (kdOf E s.o)

section
variable {E : Env}

/-- the frame after the steps of a set -/
def frS (S : Nat → Bool) : Nat → List Stp → Tr TV → Tr TV
  | _, [], fr => fr
  | i, s :: ss, fr => frS S (i + 1) ss (match S i with | true => putT fr s.o.dst s.v | false => fr)
/-- the state after the steps of a set -/
def stS (E : Env) (S : Nat → Bool) : Nat → List Stp → St → St
  | _, [], σ => σ
  | i, s :: ss, σ => stS E S (i + 1) ss (match S i && s.isW E with | true => s.σ' | false => σ)

theorem frS_append (S : Nat → Bool) : ∀ (i : Nat) (a b : List Stp) (fr : Tr TV), frS S i (a ++ b) fr = frS S (i + a.length) b (frS S i a fr)
  | i, [], b, fr => rfl
  | i, s :: a, b, fr => by simp only [List.cons_append, frS, List.length_cons]; rw [frS_append S (i + 1) a b, show i + 1 + a.length = i + (a.length + 1) by omega]
theorem stS_append (S : Nat → Bool) : ∀ (i : Nat) (a b : List Stp) (σ : St), stS E S i (a ++ b) σ = stS E S (i + a.length) b (stS E S i a σ)
  | i, [], b, σ => rfl
  | i, s :: a, b, σ => by simp only [List.cons_append, stS, List.length_cons]; rw [stS_append S (i + 1) a b, show i + 1 + a.length = i + (a.length + 1) by omega]

theorem putT_get {fr : Tr TV} {dst : Option Tmp} {v : TV} {t : Nat} (h : dst ≠ some t) : (putT fr dst v).get t = fr.get t := by
  cases dst with
  | none => rfl
  | some d => exact Tr.get_set_ne 12 fr d t v (fun h' => h (by rw [h']))
theorem putT_get2 {fr fr2 : Tr TV} {dst : Option Tmp} {v : TV} {t : Nat} (h : fr.get t = fr2.get t) : (putT fr dst v).get t = (putT fr2 dst v).get t := by
  cases dst with
  | none => exact h
  | some d =>
    by_cases hd : t = d
    · subst hd
      show (fr.set 12 t v).get t = (fr2.set 12 t v).get t
      rw [Tr.get_set_same 12 fr t v, Tr.get_set_same 12 fr2 t v]
    · show (fr.set 12 d v).get t = (fr2.set 12 d v).get t
      rw [Tr.get_set_ne 12 fr d t v hd, Tr.get_set_ne 12 fr2 d t v hd]; exact h

/-- Sets that agree on a tmp's writers give it the same. -/
theorem frS_agree {S T : Nat → Bool} {t : Nat} : ∀ {i : Nat} {ss : List Stp} {fr fr2 : Tr TV}, fr.get t = fr2.get t → (∀ j s, ss[j]? = some s → s.o.dst = some t → S (i + j) = T (i + j)) →
    (frS S i ss fr).get t = (frS T i ss fr2).get t
  | i, [], fr, fr2, h, _ => h
  | i, s :: ss, fr, fr2, h, ha => by
    simp only [frS]
    refine frS_agree ?_ (fun j s' hj hd => by have := ha (j + 1) s' (by simpa using hj) hd; rwa [show i + (j + 1) = i + 1 + j by omega] at this)
    by_cases hd : s.o.dst = some t
    · have := ha 0 s rfl hd
      rw [Nat.add_zero] at this
      rw [this]
      cases T i with
      | true => exact putT_get2 h
      | false => exact h
    · have l : ∀ (b : Bool) (f : Tr TV), (match b with | true => putT f s.o.dst s.v | false => f).get t = f.get t := fun b f => by
        cases b with
        | true => exact putT_get hd
        | false => rfl
      rw [l, l]; exact h

/-- Sets that agree on what changes the state give the same state. -/
theorem stS_agree {S T : Nat → Bool} : ∀ {i : Nat} {ss : List Stp} {σ : St}, (∀ j s, ss[j]? = some s → s.isW E = true → S (i + j) = T (i + j)) → stS E S i ss σ = stS E T i ss σ
  | i, [], σ, _ => rfl
  | i, s :: ss, σ, ha => by
    simp only [stS]
    have hs : (match S i && s.isW E with | true => s.σ' | false => σ) = (match T i && s.isW E with | true => s.σ' | false => σ) := by
      cases hw : s.isW E with
      | true => have := ha 0 s rfl hw; rw [Nat.add_zero] at this; rw [this]
      | false => simp
    rw [hs]
    exact stS_agree fun j s' hj hd => by have := ha (j + 1) s' (by simpa using hj) hd; rwa [show i + (j + 1) = i + 1 + j by omega] at this

theorem frS_none {S : Nat → Bool} : ∀ {i : Nat} {ss : List Stp} {fr : Tr TV}, (∀ j, j < ss.length → S (i + j) = false) → frS S i ss fr = fr
  | i, [], fr, _ => rfl
  | i, s :: ss, fr, h => by
    simp only [frS]
    have h0 := h 0 (by simp)
    rw [Nat.add_zero] at h0
    rw [h0]
    exact frS_none fun j hj => by have := h (j + 1) (by simp; omega); rwa [show i + (j + 1) = i + 1 + j by omega] at this
theorem stS_none {S : Nat → Bool} : ∀ {i : Nat} {ss : List Stp} {σ : St}, (∀ j, j < ss.length → S (i + j) = false) → stS E S i ss σ = σ
  | i, [], fr, _ => rfl
  | i, s :: ss, fr, h => by
    simp only [stS]
    have h0 := h 0 (by simp)
    rw [Nat.add_zero] at h0
    rw [h0]
    exact stS_none fun j hj => by have := h (j + 1) (by simp; omega); rwa [show i + (j + 1) = i + 1 + j by omega] at this

/-- what the evaluator says of whether an operation is wanted -/
def wantB (ops : Array Oper) (o : Oper) (fr : Tr TV) : Option Bool := wantK ops o fr (some true) (some false)

theorem wantK_eq {R : Type} {ops : Array Oper} {o : Oper} {fr : Tr TV} {yes no : Option R} {r : R} (h : wantK ops o fr yes no = some r) :
    (wantB ops o fr = some true ∧ yes = some r) ∨ (wantB ops o fr = some false ∧ no = some r) := by
  unfold wantB wantK at *
  split at h
  · exact .inl ⟨rfl, h⟩
  · split at h
    · rename_i b _
      split at h
      · cases b
        · exact .inr ⟨rfl, h⟩
        · exact .inl ⟨rfl, h⟩
      · cases b
        · exact .inl ⟨rfl, h⟩
        · exact .inr ⟨rfl, h⟩
    · exact .inr ⟨rfl, h⟩
    · cases h

/-- the steps follow one another -/
def Chain (E : Env) (rec : Rec) (rd : Bool) (ops : Array Oper) : List Stp → Tr TV → St → Tr TV → St → Prop
  | [], fr, σ, fr', σ' => fr' = fr ∧ σ' = σ
  | s :: ss, fr, σ, fr', σ' => s.fr = fr ∧ s.σ = σ ∧ wantB ops s.o fr = some s.w ∧
      (s.w = false → s.v = .tuple []) ∧ (s.w = true → ∃ σ₁, opRun E rec rd s.o fr σ = some ⟨.ret, [s.v], σ₁⟩ ∧ (kdOf E s.o = .w → s.σ' = σ₁) ∧ (kdOf E s.o = .q → drawFlat E s.o fr = true)) ∧ (s.isW E = false → s.σ' = σ) ∧
      Chain E rec rd ops ss (putT fr s.o.dst s.v) s.σ' fr' σ'

/-- what was looked at across -/
def Cross (E : Env) (rec : Rec) (rd : Bool) (ms : List Nat) (ss : List Stp) : Prop :=
  ∀ i k s t, ss[i]? = some s → ss[k]? = some t → i < k → s.w = true → t.w = true → (ms.getD k 0).testBit i = false →
    (Tv.isW (kdOf E s.o) = true → kdOf E t.o = .l → sameRun E rec rd t.o t.fr s.σ t.v = true) ∧
    (kdOf E s.o = .l → Tv.isW (kdOf E t.o) = true → sameRun E rec rd s.o s.fr t.σ' s.v = true)

theorem chkW_at {rec : Rec} {rd : Bool} {m : Nat} {o : Oper} {fr : Tr TV} {v : TV} : ∀ {ws : List (Nat × St)}, chkW E rec rd m o fr v ws = true → ∀ j σ, (j, σ) ∈ ws → m.testBit j = false → sameRun E rec rd o fr σ v = true
  | [], _, j, σ, h, _ => nomatch h
  | (i, τ) :: ws, h, j, σ, hm, hb => by
    simp only [chkW, Bool.and_eq_true, Bool.or_eq_true] at h
    rcases List.mem_cons.1 hm with hm | hm
    · cases hm
      rcases h.1 with h1 | h1
      · rw [hb] at h1; cases h1
      · exact h1
    · exact chkW_at h.2 j σ hm hb
theorem chkL_at {rec : Rec} {rd : Bool} {m : Nat} {σ : St} : ∀ {ls : List (Nat × Oper × Tr TV × TV)}, chkL E rec rd m σ ls = true → ∀ j o fr v, (j, o, fr, v) ∈ ls → m.testBit j = false → sameRun E rec rd o fr σ v = true
  | [], _, j, o, fr, v, h, _ => nomatch h
  | (i, p, f, u) :: ls, h, j, o, fr, v, hm, hb => by
    simp only [chkL, Bool.and_eq_true, Bool.or_eq_true] at h
    rcases List.mem_cons.1 hm with hm | hm
    · cases hm
      rcases h.1 with h1 | h1
      · rw [hb] at h1; cases h1
      · exact h1
    · exact chkL_at h.2 j o fr v hm hb

/-- what has been taken down -/
structure Noted (E : Env) (pre : List Stp) (ls : List (Nat × Oper × Tr TV × TV)) (ws : List (Nat × St)) : Prop where
  l : ∀ j s, pre[j]? = some s → s.w = true → kdOf E s.o = .l → (j, s.o, s.fr, s.v) ∈ ls
  w : ∀ j s, pre[j]? = some s → s.w = true → Tv.isW (kdOf E s.o) = true → (j, s.σ) ∈ ws

theorem getElem?_snoc {α : Type} {pre : List α} {s : α} {j : Nat} {x : α} (h : (pre ++ [s])[j]? = some x) : pre[j]? = some x ∨ (j = pre.length ∧ x = s) := by
  rcases Nat.lt_trichotomy j pre.length with hj | hj | hj
  · rw [List.getElem?_append_left hj] at h; exact .inl h
  · subst hj; simp at h; exact .inr ⟨rfl, h.symm⟩
  · rw [List.getElem?_eq_none (by simp; omega)] at h; cases h

/-- What a run over a region comes to. -/
theorem draw_steps {R : Type} {rec : Rec} {rd : Bool} {ops : Array Oper} {ms : List Nat} {K : Tr TV → St → Option R} {r : R} :
    ∀ (os : List Oper) (pre : List Stp) {fr : Tr TV} {σ : St} {ls : List (Nat × Oper × Tr TV × TV)} {ws : List (Nat × St)}, Noted E pre ls ws → Cross E rec rd ms pre →
      evalDraw E rec rd ops ms pre.length os fr σ ls ws K = some r →
      ∃ ss fr' σ', ss.map (·.o) = os ∧ Chain E rec rd ops ss fr σ fr' σ' ∧ Cross E rec rd ms (pre ++ ss) ∧ K fr' σ' = some r
  | [], pre, fr, σ, ls, ws, hn, hx, h => ⟨[], fr, σ, rfl, ⟨rfl, rfl⟩, by simpa using hx, h⟩
  | o :: os, pre, fr, σ, ls, ws, hn, hx, h => by
    unfold evalDraw at h
    have go : ∀ (s : Stp) (ls' : List (Nat × Oper × Tr TV × TV)) (ws' : List (Nat × St)), s.o = o → Noted E (pre ++ [s]) ls' ws' → Cross E rec rd ms (pre ++ [s]) →
        evalDraw E rec rd ops ms (pre.length + 1) os (putT fr o.dst s.v) s.σ' ls' ws' K = some r →
        (∀ ss fr' σ', Chain E rec rd ops ss (putT fr s.o.dst s.v) s.σ' fr' σ' → Chain E rec rd ops (s :: ss) fr σ fr' σ') →
        ∃ ss fr' σ', ss.map (·.o) = o :: os ∧ Chain E rec rd ops ss fr σ fr' σ' ∧ Cross E rec rd ms (pre ++ ss) ∧ K fr' σ' = some r := by
      intro s ls' ws' hs hn' hx' h' hc
      obtain ⟨ss, fr', σ', h1, h2, h3, h4⟩ := draw_steps os (pre ++ [s]) hn' hx' (by rw [List.length_append]; exact h')
      exact ⟨s :: ss, fr', σ', by simp [hs, h1], hc ss fr' σ' (by rw [hs]; exact h2), by simpa using h3, h4⟩
    rcases wantK_eq h with ⟨hw, h1⟩ | ⟨hw, h1⟩
    · unfold givenK at h1
      split at h1
      · rename_i v σ₁ hrun
        cases hk : kdOf E o with
        | q =>
          rw [hk] at h1
          simp only at h1
          obtain ⟨hd, h2⟩ := tst_none h1
          refine go ⟨o, true, v, fr, σ, σ⟩ ls ws rfl ⟨fun j s hj hsw hkd => ?_, fun j s hj hsw hkd => ?_⟩ (fun i k s t hi hkk hlt hs ht hb => ?_) h2 (fun ss fr' σ' hc => ⟨rfl, rfl, hw, (fun h => nomatch h), (fun _ => ⟨σ₁, hrun, (fun h => by rw [hk] at h; cases h), fun _ => hd⟩), (fun _ => rfl), hc⟩)
          · rcases getElem?_snoc hj with hj | ⟨rfl, rfl⟩
            · exact hn.l j s hj hsw hkd
            · simp only at hkd; rw [hk] at hkd; cases hkd
          · rcases getElem?_snoc hj with hj | ⟨rfl, rfl⟩
            · exact hn.w j s hj hsw hkd
            · simp only at hkd; rw [hk] at hkd; cases hkd
          · rcases getElem?_snoc hkk with hkk | ⟨rfl, rfl⟩
            · rcases getElem?_snoc hi with hi | ⟨rfl, rfl⟩
              · exact hx i k s t hi hkk hlt hs ht hb
              · have := (List.getElem?_eq_some_iff.1 hkk).1; omega
            · simp only [hk]
              exact ⟨(fun _ h => nomatch h), (fun _ h => nomatch h)⟩
        | l =>
          rw [hk] at h1
          simp only at h1
          obtain ⟨hd, h2⟩ := tst_none h1
          refine go ⟨o, true, v, fr, σ, σ⟩ _ ws rfl ⟨fun j s hj hsw hkd => ?_, fun j s hj hsw hkd => ?_⟩ (fun i k s t hi hkk hlt hs ht hb => ?_) h2 (fun ss fr' σ' hc => ⟨rfl, rfl, hw, (fun h => nomatch h), (fun _ => ⟨σ₁, hrun, (fun h => by rw [hk] at h; cases h), (fun h => by rw [hk] at h; cases h)⟩), (fun _ => rfl), hc⟩)
          · rcases getElem?_snoc hj with hj | ⟨rfl, rfl⟩
            · exact List.mem_cons_of_mem _ (hn.l j s hj hsw hkd)
            · exact List.mem_cons_self
          · rcases getElem?_snoc hj with hj | ⟨rfl, rfl⟩
            · exact hn.w j s hj hsw hkd
            · simp only at hkd; rw [hk] at hkd; cases hkd
          · rcases getElem?_snoc hkk with hkk | ⟨rfl, rfl⟩
            · rcases getElem?_snoc hi with hi | ⟨rfl, rfl⟩
              · exact hx i k s t hi hkk hlt hs ht hb
              · have := (List.getElem?_eq_some_iff.1 hkk).1; omega
            · rcases getElem?_snoc hi with hi | ⟨rfl, rfl⟩
              · simp only [hk]
                exact ⟨fun hsW _ => chkW_at hd i s.σ (hn.w i s hi hs hsW) hb, (fun _ h => nomatch h)⟩
              · omega
        | w =>
          rw [hk] at h1
          simp only at h1
          obtain ⟨hd, h2⟩ := tst_none h1
          refine go ⟨o, true, v, fr, σ, σ₁⟩ ls _ rfl ⟨fun j s hj hsw hkd => ?_, fun j s hj hsw hkd => ?_⟩ (fun i k s t hi hkk hlt hs ht hb => ?_) h2 (fun ss fr' σ' hc => ⟨rfl, rfl, hw, (fun h => nomatch h), (fun _ => ⟨σ₁, hrun, (fun _ => rfl), (fun h => by rw [hk] at h; cases h)⟩), (fun h => by simp [Stp.isW, hk, Tv.isW] at h), hc⟩)
          · rcases getElem?_snoc hj with hj | ⟨rfl, rfl⟩
            · exact hn.l j s hj hsw hkd
            · simp only at hkd; rw [hk] at hkd; cases hkd
          · rcases getElem?_snoc hj with hj | ⟨rfl, rfl⟩
            · exact List.mem_cons_of_mem _ (hn.w j s hj hsw hkd)
            · exact List.mem_cons_self
          · rcases getElem?_snoc hkk with hkk | ⟨rfl, rfl⟩
            · rcases getElem?_snoc hi with hi | ⟨rfl, rfl⟩
              · exact hx i k s t hi hkk hlt hs ht hb
              · have := (List.getElem?_eq_some_iff.1 hkk).1; omega
            · rcases getElem?_snoc hi with hi | ⟨rfl, rfl⟩
              · simp only [hk]
                exact ⟨(fun _ h => nomatch h), fun hsl _ => chkL_at hd i s.o s.fr s.v (hn.l i s hi hs hsl) hb⟩
              · omega
      · cases h1
    · refine go ⟨o, false, .tuple [], fr, σ, σ⟩ ls ws rfl ⟨fun j s hj hsw hkd => ?_, fun j s hj hsw hkd => ?_⟩ (fun i k s t hi hkk hlt hs ht hb => ?_) h1 (fun ss fr' σ' hc => ⟨rfl, rfl, hw, (fun _ => rfl), (fun h => nomatch h), (fun _ => rfl), hc⟩)
      · rcases getElem?_snoc hj with hj | ⟨rfl, rfl⟩
        · exact hn.l j s hj hsw hkd
        · cases hsw
      · rcases getElem?_snoc hj with hj | ⟨rfl, rfl⟩
        · exact hn.w j s hj hsw hkd
        · cases hsw
      · rcases getElem?_snoc hkk with hkk | ⟨rfl, rfl⟩
        · rcases getElem?_snoc hi with hi | ⟨rfl, rfl⟩
          · exact hx i k s t hi hkk hlt hs ht hb
          · have := (List.getElem?_eq_some_iff.1 hkk).1; omega
        · cases ht

/-- What a chain says of one of its steps. -/
theorem chain_at {rec : Rec} {rd : Bool} {ops : Array Oper} : ∀ {ss : List Stp} {i : Nat} {fr : Tr TV} {σ : St} {fr' : Tr TV} {σ' : St}, Chain E rec rd ops ss fr σ fr' σ' →
    (frS (fun _ => true) i ss fr = fr' ∧ stS E (fun _ => true) i ss σ = σ') ∧ ∀ j s, ss[j]? = some s →
      s.fr = frS (fun k => decide (k < i + j)) i ss fr ∧ s.σ = stS E (fun k => decide (k < i + j)) i ss σ ∧ (s.isW E = true → s.σ' = stS E (fun k => decide (k < i + j + 1)) i ss σ) ∧
      wantB ops s.o s.fr = some s.w ∧ (s.w = false → s.v = .tuple []) ∧ (s.w = true → ∃ σ₁, opRun E rec rd s.o s.fr s.σ = some ⟨.ret, [s.v], σ₁⟩ ∧ (kdOf E s.o = .w → s.σ' = σ₁) ∧ (kdOf E s.o = .q → drawFlat E s.o s.fr = true))
  | [], i, fr, σ, fr', σ', h => ⟨⟨h.1.symm, h.2.symm⟩, fun j s hj => by simp at hj⟩
  | s :: ss, i, fr, σ, fr', σ', h => by
    obtain ⟨h1, h2, h3, h4, h5, h6, h7⟩ := h
    obtain ⟨k1, k2⟩ := chain_at (i := i + 1) h7
    have e2 : (match s.isW E with | true => s.σ' | false => σ) = s.σ' := by
      cases hw : s.isW E with
      | true => rfl
      | false => exact (h6 hw).symm
    refine ⟨⟨k1.1, ?_⟩, fun j x hj => ?_⟩
    · simp only [stS, Bool.true_and]; rw [e2]; exact k1.2
    · cases j with
      | zero =>
        simp at hj
        subst hj
        have none1 : ∀ n : Nat, n < ss.length → (fun k => decide (k < i + 0)) (i + 1 + n) = false := fun n _ => by simp; omega
        have none2 : ∀ n : Nat, n < ss.length → (fun k => decide (k < i + 0 + 1)) (i + 1 + n) = false := fun n _ => by simp
        refine ⟨?_, ?_, fun hw => ?_, by rw [h1]; exact h3, h4, fun hw => by rw [h1, h2]; exact h5 hw⟩
        · simp only [frS]; rw [frS_none none1]; simpa using h1
        · simp only [stS]; rw [stS_none none1]; simpa using h2
        · simp only [stS]; rw [stS_none none2]; simp [hw]
      | succ j =>
        have hx := k2 j x (by simpa using hj)
        have e : ∀ c : Nat, (fun k => decide (k < i + (j + 1) + c)) = (fun k => decide (k < i + 1 + j + c)) := fun c => by funext k; congr 1; simp only [eq_iff_iff]; omega
        refine ⟨?_, ?_, fun hw => ?_, hx.2.2.2⟩
        · have := e 0
          simp only [Nat.add_zero] at this
          rw [hx.1, this]
          simp only [frS]
          rw [show decide (i < i + 1 + j) = true by simp; omega]
        · have := e 0
          simp only [Nat.add_zero] at this
          rw [hx.2.1, this]
          simp only [stS]
          rw [show decide (i < i + 1 + j) = true by simp; omega, Bool.true_and, e2]
        · rw [hx.2.2.1 hw, e 1]
          simp only [stS]
          rw [show decide (i < i + 1 + j + 1) = true by simp; omega, Bool.true_and, e2]

/-! ## what stands ahead of what -/
def MaskOk (ops : List Oper) (ms : List Nat) : Prop := ∀ k o, ops[k]? = some o → ∀ i, (ms.getD k 0).testBit i = true → ∃ e, e ∈ o.after.toList ∧ Region.binds .any e = true ∧ (i = e.on ∨ (ms.getD e.on 0).testBit i = true)

theorem maskOf_bit {ms : List Nat} {i : Nat} : ∀ {es : List Edge}, (maskOf ms es).testBit i = true → ∃ e, e ∈ es ∧ Region.binds .any e = true ∧ (i = e.on ∨ (ms.getD e.on 0).testBit i = true)
  | [], h => by simp [maskOf] at h
  | e :: es, h => by
    unfold maskOf at h
    cases hb : Region.binds .any e with
    | false =>
      rw [hb] at h
      obtain ⟨f, h1, h2⟩ := maskOf_bit (es := es) h
      exact ⟨f, List.mem_cons_of_mem _ h1, h2⟩
    | true =>
      rw [hb] at h
      simp only [cond_true, Nat.testBit_or, Bool.or_eq_true] at h
      rcases h with (h | h) | h
      · rw [Nat.testBit_shiftLeft] at h
        simp only [Bool.and_eq_true, decide_eq_true_eq] at h
        have : i - e.on = 0 := by
          rcases Nat.eq_zero_or_pos (i - e.on) with h0 | h0
          · exact h0
          · exfalso
            have h2 := h.2
            have : Nat.testBit 1 (i - e.on) = false := by
              rw [show (1 : Nat) = 2 ^ 0 by rfl, Nat.testBit_two_pow]
              simp; omega
            rw [this] at h2; cases h2
        exact ⟨e, List.mem_cons_self, hb, .inl (by omega)⟩
      · exact ⟨e, List.mem_cons_self, hb, .inr h⟩
      · obtain ⟨f, h1, h2⟩ := maskOf_bit (es := es) h
        exact ⟨f, List.mem_cons_of_mem _ h1, h2⟩

theorem masks_keep : ∀ (os : List Oper) (ms : List Nat) (k : Nat), k < ms.length → (masks os ms).getD k 0 = ms.getD k 0
  | [], ms, k, _ => rfl
  | o :: os, ms, k, h => by
    unfold masks
    rw [masks_keep os _ k (by simp; omega)]
    simp only [List.getD_eq_getElem?_getD]
    rw [List.getElem?_append_left h]

theorem masks_ok : ∀ (os pre : List Oper) (ms : List Nat), ms.length = pre.length → MaskOk pre ms → MaskOk (pre ++ os) (masks os ms)
  | [], pre, ms, _, h => by simpa [masks] using h
  | o :: os, pre, ms, hl, h => by
    unfold masks
    have := masks_ok os (pre ++ [o]) (ms ++ [maskOf ms o.after.toList]) (by simp [hl]) (fun k p hk i hi => ?_)
    · simpa using this
    · have getl : ∀ j, j < ms.length → (ms ++ [maskOf ms o.after.toList]).getD j 0 = ms.getD j 0 := fun j hj => by
        simp only [List.getD_eq_getElem?_getD]; rw [List.getElem?_append_left hj]
      have geti : ∀ j b, (ms.getD j 0).testBit b = true → ((ms ++ [maskOf ms o.after.toList]).getD j 0).testBit b = true := fun j b hb => by
        rcases Nat.lt_or_ge j ms.length with hj | hj
        · rw [getl j hj]; exact hb
        · rw [List.getD_eq_getElem?_getD, List.getElem?_eq_none hj] at hb
          simp at hb
      rcases getElem?_snoc hk with hk | ⟨rfl, rfl⟩
      · have hlt : k < ms.length := by rw [hl]; exact (List.getElem?_eq_some_iff.1 hk).1
        rw [getl k hlt] at hi
        obtain ⟨e, h1, h2, h3⟩ := h k p hk i hi
        exact ⟨e, h1, h2, h3.imp_right (geti e.on i)⟩
      · rw [List.getD_eq_getElem?_getD, List.getElem?_append_right (by omega), hl, Nat.sub_self] at hi
        obtain ⟨e, h1, h2, h3⟩ := maskOf_bit (by simpa using hi)
        exact ⟨e, h1, h2, h3.imp_right (geti e.on i)⟩

theorem drawPairs_at {ops : Array Oper} {ms : List Nat} {k : Nat} {p : Oper} : ∀ {os : List Oper} {i : Nat}, drawPairs E ops ms k p i os = true → ∀ j o, os[j]? = some o → i + j < k →
    (opShare ops o p = true ∨ (Tv.isW (kdOf E o) = true ∧ Tv.isW (kdOf E p) = true)) → (ms.getD k 0).testBit (i + j) = true
  | [], i, _, j, o, h, _, _ => by simp at h
  | q :: os, i, h, j, o, hj, hlt, hs => by
    simp only [drawPairs, Bool.and_eq_true] at h
    cases j with
    | zero =>
      simp at hj
      subst hj
      have h1 := h.1
      have hb : Nat.blt i k = true := by simpa [Nat.blt_eq] using hlt
      rw [hb] at h1
      simp only [Bool.not_true, Bool.false_or, Bool.or_eq_true, Bool.not_eq_true'] at h1
      rcases h1 with h1 | h1
      · rw [Bool.or_eq_false_iff] at h1
        rcases hs with hs | hs
        · rw [h1.1] at hs; cases hs
        · rw [hs.1, hs.2] at h1; cases h1.2
      · exact h1
    | succ j =>
      have := drawPairs_at h.2 j o (by simpa using hj) (by omega) hs
      rwa [show i + 1 + j = i + (j + 1) by omega] at this

theorem drawEach_at {ops : Array Oper} {ms : List Nat} : ∀ {ps : List Oper} {k : Nat}, drawEach E ops ms k ps = true → ∀ j p, ps[j]? = some p →
    (∀ e, e ∈ p.after.toList → Region.binds .any e = true → e.on < k + j) ∧ ∀ i o, ops[i]? = some o → i < k + j → (opShare ops o p = true ∨ (Tv.isW (kdOf E o) = true ∧ Tv.isW (kdOf E p) = true)) → (ms.getD (k + j) 0).testBit i = true
  | [], k, _, j, p, h => by simp at h
  | q :: ps, k, h, j, p, hj => by
    simp only [drawEach, Bool.and_eq_true, List.all_eq_true] at h
    cases j with
    | zero =>
      simp at hj
      subst hj
      refine ⟨fun e he hb => ?_, fun i o ho hlt hs => ?_⟩
      · have := h.1.1 e he
        rw [hb] at this
        simpa [Nat.blt_eq] using this
      · have := drawPairs_at h.1.2 i o (by rw [Array.getElem?_toList]; exact ho) (by omega) hs
        rwa [Nat.zero_add] at this
    | succ j =>
      have := drawEach_at h.2 j p (by simpa using hj)
      rwa [show k + 1 + j = k + (j + 1) by omega] at this
end

theorem exists_last {p : Nat → Prop} [DecidablePred p] : ∀ (n : Nat), (∃ i, i < n ∧ p i) → ∃ i, i < n ∧ p i ∧ ∀ j, i < j → j < n → ¬ p j
  | 0, ⟨i, h, _⟩ => absurd h (Nat.not_lt_zero i)
  | n + 1, ⟨i, h, hp⟩ => by
    by_cases hn : p n
    · exact ⟨n, by omega, hn, fun j _ _ => by omega⟩
    · have hi : i < n := by
        rcases Nat.lt_succ_iff_lt_or_eq.1 h with h | h
        · exact h
        · subst h; exact absurd hp hn
      obtain ⟨k, h1, h2, h3⟩ := exists_last n ⟨i, hi, hp⟩
      refine ⟨k, by omega, h2, fun j hj hjn => ?_⟩
      by_cases e : j = n
      · subst e; exact hn
      · exact h3 j hj (by omega)
theorem exists_first {p : Nat → Prop} [DecidablePred p] : ∀ (n : Nat), (∃ i, i < n ∧ p i) → ∃ i, i < n ∧ p i ∧ ∀ j, j < i → ¬ p j
  | 0, ⟨i, h, _⟩ => absurd h (Nat.not_lt_zero i)
  | n + 1, ⟨i, h, hp⟩ => by
    by_cases hx : ∃ i, i < n ∧ p i
    · obtain ⟨k, h1, h2, h3⟩ := exists_first n hx
      exact ⟨k, by omega, h2, h3⟩
    · refine ⟨i, h, hp, fun j hj hpj => hx ⟨j, by omega, hpj⟩⟩
end Go.Tv

/- Regions whose order is drawn: whatever the order. -/
namespace Go.Tv
open Go Go.RowKit

section
variable {P : Program} {E : Env} {C D : Ctx}

theorem StOk.fr_eq {a : Act} {fr fr2 : Tr TV} {σ : St} {sz : Nat} (h : StOk P E C a fr σ sz) (he : ∀ t, fr2.get t = fr.get t) : StOk P E C a fr2 σ sz :=
  ⟨h.ok, h.ents, h.glob, fun t => by rw [he t]; exact h.fr t, h.size, h.defs⟩

/-- What is known of a region and its steps. -/
structure Drawn (E : Env) (rec : Rec) (rd : Bool) (ops : Array Oper) (ms : List Nat) (ss : List Stp) (fr : Tr TV) (σ : St) (fr' : Tr TV) (σ' : St) (sz : Nat) : Prop where
  map : ss.map (·.o) = ops.toList
  chain : Chain E rec rd ops ss fr σ fr' σ'
  cross : Cross E rec rd ms ss
  mask : MaskOk ops.toList ms
  each : ∀ (k : Nat) (p : Oper), ops[k]? = some p → (∀ e, e ∈ p.after.toList → Region.binds .any e = true → e.on < k) ∧ ∀ (i : Nat) (o : Oper), ops[i]? = some o → i < k → (opShare ops o p = true ∨ (Tv.isW (kdOf E o) = true ∧ Tv.isW (kdOf E p) = true)) → (ms.getD k 0).testBit i = true
  fit : ∀ (k : Nat) (o : Oper), ops[k]? = some o → opFit sz o = true
  sz : sz < 4096

def Closed (ms : List Nat) (S : Nat → Bool) : Prop := ∀ k, S k = true → ∀ i, (ms.getD k 0).testBit i = true → S i = true

section
variable {rec : Rec} {rd : Bool} {ops : Array Oper} {ms : List Nat} {ss : List Stp} {fr fr' : Tr TV} {σ σ' : St} {sz : Nat} {S : Nat → Bool}

theorem Drawn.op (h : Drawn E rec rd ops ms ss fr σ fr' σ' sz) {k : Nat} {s : Stp} (hs : ss[k]? = some s) : ops[k]? = some s.o := by
  rw [← Array.getElem?_toList, ← h.map, List.getElem?_map, hs]; rfl
theorem Drawn.step (h : Drawn E rec rd ops ms ss fr σ fr' σ' sz) {k : Nat} {o : Oper} (ho : ops[k]? = some o) : ∃ s, ss[k]? = some s ∧ s.o = o := by
  rw [← Array.getElem?_toList, ← h.map, List.getElem?_map] at ho
  cases hs : ss[k]? with
  | none => rw [hs] at ho; cases ho
  | some s => rw [hs] at ho; exact ⟨s, rfl, by simpa using ho⟩
theorem Drawn.at (h : Drawn E rec rd ops ms ss fr σ fr' σ' sz) {k : Nat} {s : Stp} (hs : ss[k]? = some s) :
      s.fr = frS (fun j => decide (j < k)) 0 ss fr ∧ s.σ = stS E (fun j => decide (j < k)) 0 ss σ ∧ (s.isW E = true → s.σ' = stS E (fun j => decide (j < k + 1)) 0 ss σ) ∧
      wantB ops s.o s.fr = some s.w ∧ (s.w = false → s.v = .tuple []) ∧ (s.w = true → ∃ σ₁, opRun E rec rd s.o s.fr s.σ = some ⟨.ret, [s.v], σ₁⟩ ∧ (kdOf E s.o = .w → s.σ' = σ₁) ∧ (kdOf E s.o = .q → drawFlat E s.o s.fr = true)) := by
  have := (chain_at (i := 0) h.chain).2 k s hs
  simpa using this

/-- a writer of a tmp that an operation touches -/
theorem Drawn.writers (h : Drawn E rec rd ops ms ss fr σ fr' σ' sz) (hcl : Closed ms S) {k : Nat} {s : Stp} (hs : ss[k]? = some s) (hk : S k = false) (hm : ∀ i, (ms.getD k 0).testBit i = true → S i = true) {t : Nat} (ht : opTouches ops s.o t = true) :
    ∀ j x, ss[j]? = some x → x.o.dst = some t → S (0 + j) = decide (0 + j < k) := by
  intro j x hj hd
  rw [Nat.zero_add]
  rcases Nat.lt_trichotomy j k with hlt | rfl | hgt
  · rw [hm j ((h.each k s.o (h.op hs)).2 j x.o (h.op hj) hlt (.inl (by unfold opShare; rw [hd]; simp [ht])))]
    simp [hlt]
  · rw [hk]; simp
  · have hb := (h.each j x.o (h.op hj)).2 k s.o (h.op hs) hgt (.inl (by unfold opShare; rw [hd]; simp [ht]))
    have : S j = false := by
      cases hS : S j with
      | false => rfl
      | true => rw [hcl j hS k hb] at hk; cases hk
    rw [this]; simp; omega

theorem Drawn.get (h : Drawn E rec rd ops ms ss fr σ fr' σ' sz) (hcl : Closed ms S) {k : Nat} {s : Stp} (hs : ss[k]? = some s) (hk : S k = false) (hm : ∀ i, (ms.getD k 0).testBit i = true → S i = true) {t : Nat} (ht : opTouches ops s.o t = true) :
    (frS S 0 ss fr).get t = s.fr.get t := by
  rw [(h.at hs).1]
  exact frS_agree rfl (h.writers hcl hs hk hm ht)

theorem Drawn.opd (h : Drawn E rec rd ops ms ss fr σ fr' σ' sz) (hcl : Closed ms S) {k : Nat} {s : Stp} (hs : ss[k]? = some s) (hk : S k = false) (hm : ∀ i, (ms.getD k 0).testBit i = true → S i = true) :
    ∀ x, x ∈ s.o.op.operands.toList → opd E (frS S 0 ss fr) x = opd E s.fr x := by
  intro x hx
  cases x with
  | tmp t =>
    simp only [Tv.opd]
    rw [h.get hcl hs hk hm (t := t) (by
      unfold opTouches
      simp only [Bool.or_eq_true, List.any_eq_true]
      exact .inl ⟨_, hx, Nat.beq_refl t⟩)]
  | const v => rfl
  | global g => rfl
  | func f => rfl

theorem Drawn.want (h : Drawn E rec rd ops ms ss fr σ fr' σ' sz) (hcl : Closed ms S) {k : Nat} {s : Stp} (hs : ss[k]? = some s) (hk : S k = false) (hm : ∀ i, (ms.getD k 0).testBit i = true → S i = true) :
    wantB ops s.o (frS S 0 ss fr) = some s.w := by
  rw [← (h.at hs).2.2.2.1]
  unfold wantB wantK
  cases hg : s.o.guard with
  | none => rfl
  | some g =>
    obtain ⟨j, want⟩ := g
    have hy : yieldT ops (frS S 0 ss fr) j = yieldT ops s.fr j := by
      unfold yieldT
      cases hj : ops[j]? with
      | none => rfl
      | some oj =>
        simp only
        cases hd : oj.dst with
        | none => rfl
        | some d =>
          simp only
          rw [h.get hcl hs hk hm (t := d) (by
            unfold opTouches
            rw [hg]
            simp only [hj, hd, Bool.or_eq_true]
            exact .inr (Nat.beq_refl d))]
    simp only [hy]

/-- Where the state stands as an operation that looks at it comes up. -/
theorem Drawn.load (h : Drawn E rec rd ops ms ss fr σ fr' σ' sz) (hcl : Closed ms S) {k : Nat} {s : Stp} (hs : ss[k]? = some s) (hk : S k = false) (hm : ∀ i, (ms.getD k 0).testBit i = true → S i = true) (hw : s.w = true) (hkd : kdOf E s.o = .l) :
    opRun E rec rd s.o s.fr (stS E S 0 ss σ) = some ⟨.ret, [s.v], stS E S 0 ss σ⟩ := by
  obtain ⟨_, hσ, _, _, _, hrun⟩ := h.at hs
  obtain ⟨σ₁, hrun, _⟩ := hrun hw
  have same : ∀ {τ : St}, sameRun E rec rd s.o s.fr τ s.v = true → opRun E rec rd s.o s.fr τ = some ⟨.ret, [s.v], τ⟩ := by
    intro τ hsr
    unfold sameRun at hsr
    split at hsr
    · rename_i u τ' hr
      have := TV.beq_eq hsr
      subst this
      rw [hr, opRun_l hkd hr]
    · cases hsr
  -- two that change the state are in order
  have ww : ∀ i j x y, ss[i]? = some x → ss[j]? = some y → i < j → x.isW E = true → y.isW E = true → S j = true → S i = true := by
    intro i j x y hi hj hlt hx hy hS
    unfold Stp.isW at hx hy
    simp only [Bool.and_eq_true] at hx hy
    exact hcl j hS i ((h.each j y.o (h.op hj)).2 i x.o (h.op hi) hlt (.inr ⟨hx.2, hy.2⟩))
  let wAt : Nat → Bool := fun j => match ss[j]? with | some x => x.isW E | none => false
  have wAt_get : ∀ j, wAt j = true → ∃ x, ss[j]? = some x ∧ x.isW E = true := by
    intro j hj
    simp only [wAt] at hj
    split at hj
    · exact ⟨_, by assumption, hj⟩
    · cases hj
  have wAt_of : ∀ j x, ss[j]? = some x → x.isW E = true → wAt j = true := by
    intro j x hj hx
    simp only [wAt, hj, hx]
  have hlt_len : ∀ j x, ss[j]? = some x → j < ss.length := fun j x hj => (List.getElem?_eq_some_iff.1 hj).1
  by_cases h1 : ∃ j, j < ss.length ∧ (k < j ∧ wAt j = true ∧ S j = true)
  · obtain ⟨j, hj, ⟨hkj, hwj, hSj⟩, hlast⟩ := exists_last (p := fun j => k < j ∧ wAt j = true ∧ S j = true) _ h1
    obtain ⟨x, hx, hxw⟩ := wAt_get j hwj
    have e : stS E S 0 ss σ = x.σ' := by
      rw [(h.at hx).2.2.1 hxw]
      refine stS_agree fun i y hi hy => ?_
      rw [Nat.zero_add]
      rcases Nat.lt_trichotomy i j with hij | rfl | hij
      · rw [ww i j y x hi hx hij hy hxw hSj]; simp; omega
      · rw [hSj]; simp
      · have : S i = false := by
          cases hS : S i with
          | false => rfl
          | true => exact absurd ⟨by omega, wAt_of i y hi hy, hS⟩ (hlast i hij (hlt_len i y hi))
        rw [this]; simp; omega
    rw [e]
    have hxw' : x.w = true ∧ Tv.isW (kdOf E x.o) = true := by simpa [Stp.isW] using hxw
    refine same ((h.cross k j s x hs hx hkj hw hxw'.1 ?_).2 hkd hxw'.2)
    cases hb : (ms.getD j 0).testBit k with
    | false => rfl
    | true => rw [hcl j hSj k hb] at hk; cases hk
  · have hno : ∀ j x, ss[j]? = some x → x.isW E = true → k < j → S j = false := by
      intro j x hj hx hkj
      cases hS : S j with
      | false => rfl
      | true => exact absurd ⟨j, hlt_len j x hj, hkj, wAt_of j x hj hx, hS⟩ h1
    by_cases h2 : ∃ j, j < k ∧ (wAt j = true ∧ S j = false)
    · obtain ⟨j, hjk, ⟨hwj, hSj⟩, hfirst⟩ := exists_first (p := fun j => wAt j = true ∧ S j = false) _ h2
      obtain ⟨x, hx, hxw⟩ := wAt_get j hwj
      have e : stS E S 0 ss σ = x.σ := by
        rw [(h.at hx).2.1]
        refine stS_agree fun i y hi hy => ?_
        rw [Nat.zero_add]
        rcases Nat.lt_trichotomy i j with hij | rfl | hij
        · have : S i = true := by
            cases hS : S i with
            | true => rfl
            | false => exact absurd ⟨wAt_of i y hi hy, hS⟩ (hfirst i hij)
          rw [this]; simp [hij]
        · rw [hSj]; simp
        · have : S i = false := by
            cases hS : S i with
            | false => rfl
            | true => rw [ww j i x y hx hi hij hxw hy hS] at hSj; cases hSj
          rw [this]; simp; omega
      rw [e]
      have hxw' : x.w = true ∧ Tv.isW (kdOf E x.o) = true := by simpa [Stp.isW] using hxw
      refine same ((h.cross j k x s hx hs hjk hxw'.1 hw ?_).1 hxw'.2 hkd)
      cases hb : (ms.getD k 0).testBit j with
      | false => rfl
      | true => rw [hm j hb] at hSj; cases hSj
    · have e : stS E S 0 ss σ = s.σ := by
        rw [hσ]
        refine stS_agree fun i y hi hy => ?_
        rw [Nat.zero_add]
        rcases Nat.lt_trichotomy i k with hik | rfl | hik
        · have : S i = true := by
            cases hS : S i with
            | true => rfl
            | false => exact absurd ⟨i, hik, wAt_of i y hi hy, hS⟩ h2
          rw [this]; simp [hik]
        · rw [hk]; simp
        · rw [hno i y hi hy hik]; simp; omega
      rw [e, hrun, opRun_l hkd hrun]

/-- What an operation that comes up does. -/
theorem Drawn.run (h : Drawn E rec rd ops ms ss fr σ fr' σ' sz) (hcl : Closed ms S) {k : Nat} {s : Stp} (hs : ss[k]? = some s) (hk : S k = false) (hm : ∀ i, (ms.getD k 0).testBit i = true → S i = true) (hw : s.w = true) :
    opRun E rec rd s.o (frS S 0 ss fr) (stS E S 0 ss σ) = some ⟨.ret, [s.v], stS E (fun j => decide (j = k) || S j) 0 ss σ⟩ := by
  have hnd : ∀ c, s.o.op ≠ .defer c := by
    intro c hc
    obtain ⟨σ₁, hrun, _⟩ := (h.at hs).2.2.2.2.2 hw
    exact opRun_defer hc hrun
  rw [opRun_congr hnd (h.opd hcl hs hk hm)]
  obtain ⟨_, hσ, hσ', _, _, hrun⟩ := h.at hs
  obtain ⟨σ₁, hrun, hrw, hrq⟩ := hrun hw
  have still : s.isW E = false → stS E (fun j => decide (j = k) || S j) 0 ss σ = stS E S 0 ss σ := by
    intro hn
    refine stS_agree fun j x hj hx => ?_
    rw [Nat.zero_add]
    have : j ≠ k := by
      rintro rfl
      rw [hs] at hj; cases hj
      rw [hn] at hx; cases hx
    simp [this]
  cases hkd : kdOf E s.o with
  | q =>
    rw [still (by simp [Stp.isW, hkd, Tv.isW])]
    exact (opRun_q hkd (hrq hkd) hrun).2 _
  | l =>
    rw [still (by simp [Stp.isW, hkd, Tv.isW])]
    exact h.load hcl hs hk hm hw hkd
  | w =>
    have hsw : s.isW E = true := by simp [Stp.isW, hkd, Tv.isW, hw]
    have e1 : stS E S 0 ss σ = s.σ := by
      rw [hσ]
      refine stS_agree fun j x hj hx => ?_
      rw [Nat.zero_add]
      have hxW : Tv.isW (kdOf E x.o) = true := by unfold Stp.isW at hx; simp only [Bool.and_eq_true] at hx; exact hx.2
      have hsW : Tv.isW (kdOf E s.o) = true := by rw [hkd]; rfl
      rcases Nat.lt_trichotomy j k with hlt | rfl | hgt
      · rw [hm j ((h.each k s.o (h.op hs)).2 j x.o (h.op hj) hlt (.inr ⟨hxW, hsW⟩))]; simp [hlt]
      · rw [hk]; simp
      · have : S j = false := by
          cases hS : S j with
          | false => rfl
          | true => rw [hcl j hS k ((h.each j x.o (h.op hj)).2 k s.o (h.op hs) hgt (.inr ⟨hsW, hxW⟩))] at hk; cases hk
        rw [this]; simp; omega
    have e2 : stS E (fun j => decide (j = k) || S j) 0 ss σ = s.σ' := by
      rw [hσ' hsw]
      refine stS_agree fun j x hj hx => ?_
      rw [Nat.zero_add]
      have hxW : Tv.isW (kdOf E x.o) = true := by unfold Stp.isW at hx; simp only [Bool.and_eq_true] at hx; exact hx.2
      have hsW : Tv.isW (kdOf E s.o) = true := by rw [hkd]; rfl
      rcases Nat.lt_trichotomy j k with hlt | rfl | hgt
      · rw [hm j ((h.each k s.o (h.op hs)).2 j x.o (h.op hj) hlt (.inr ⟨hxW, hsW⟩))]; simp; omega
      · simp
      · have : S j = false := by
          cases hS : S j with
          | false => rfl
          | true => rw [hcl j hS k ((h.each j x.o (h.op hj)).2 k s.o (h.op hs) hgt (.inr ⟨hsW, hxW⟩))] at hk; cases hk
        rw [this]; simp; omega
    rw [e1, e2, hrun, hrw hkd]

theorem Drawn.still (h : Drawn E rec rd ops ms ss fr σ fr' σ' sz) {k : Nat} {s : Stp} (hs : ss[k]? = some s) (hw : s.w = false) :
    stS E (fun j => decide (j = k) || S j) 0 ss σ = stS E S 0 ss σ := by
  refine stS_agree fun j x hj hx => ?_
  rw [Nat.zero_add]
  have : j ≠ k := by
    rintro rfl
    rw [hs] at hj; cases hj
    rw [Stp.isW, hw] at hx; cases hx
  simp [this]

theorem Drawn.frame (h : Drawn E rec rd ops ms ss fr σ fr' σ' sz) (hcl : Closed ms S) {k : Nat} {s : Stp} (hs : ss[k]? = some s) (hk : S k = false) :
    ∀ t, (frS (fun j => decide (j = k) || S j) 0 ss fr).get t = (putT (frS S 0 ss fr) s.o.dst s.v).get t := by
  intro t
  by_cases hd : s.o.dst = some t
  · have hklt := (List.getElem?_eq_some_iff.1 hs).1
    have hsplit : ss = ss.take k ++ s :: ss.drop (k + 1) := by
      have hx := (List.getElem?_eq_some_iff.1 hs).2
      conv => lhs; rw [← List.take_append_drop k ss, List.drop_eq_getElem_cons hklt, hx]
    have htake : (ss.take k).length = k := by rw [List.length_take]; omega
    have hfit : (putT (frS S 0 ss fr) s.o.dst s.v).get t = some s.v := by
      rw [hd]; exact Tr.get_set_same 12 _ t s.v
    rw [hfit]
    conv => lhs; rw [hsplit]
    rw [frS_append, htake, Nat.zero_add]
    simp only [frS, decide_true, Bool.true_or]
    have ag : (frS (fun j => decide (j = k) || S j) (k + 1) (ss.drop (k + 1)) (putT (frS (fun j => decide (j = k) || S j) 0 (ss.take k) fr) s.o.dst s.v)).get t = (frS (fun _ => false) (k + 1) (ss.drop (k + 1)) (putT (frS (fun j => decide (j = k) || S j) 0 (ss.take k) fr) s.o.dst s.v)).get t := by
      refine frS_agree rfl fun j x hj hx => ?_
      have hj' : ss[k + 1 + j]? = some x := by rwa [List.getElem?_drop] at hj
      have hne : k + 1 + j ≠ k := by omega
      have : S (k + 1 + j) = false := by
        cases hS : S (k + 1 + j) with
        | false => rfl
        | true => rw [hcl _ hS k ((h.each (k + 1 + j) x.o (h.op hj')).2 k s.o (h.op hs) (by omega) (.inl (by unfold opShare; rw [hd, hx]; simp)))] at hk; cases hk
      simp [hne, this]
    rw [ag, frS_none (fun _ _ => rfl), hd]
    exact Tr.get_set_same 12 _ t s.v
  · rw [putT_get hd]
    refine frS_agree rfl fun j x hj hx => ?_
    rw [Nat.zero_add]
    have : j ≠ k := by
      rintro rfl
      rw [hs] at hj; cases hj
      exact hd hx
    simp [this]
end

theorem count_set {l : List Bool} {i : Nat} (h : l[i]? = some false) : (l.set i true).count false + 1 = l.count false := by
  induction l generalizing i with
  | nil => simp at h
  | cons b l ih =>
    cases i with
    | zero => simp at h; subst h; simp
    | succ i =>
      have := ih (i := i) (by simpa using h)
      simp only [List.set_cons_succ, List.count_cons]
      omega

theorem evalDraw_sound {R : Type} (hE : EnvOk P E) {rec : Rec} (hrec : RecOk P E rec) {F : Fence} {n : Nat} (hF : FW F) {rd : Bool} {sz : Nat} (hsz : sz < 4096) {ops : Array Oper} (hfit : ∀ o ∈ ops.toList, opFit sz o = true) (hd : drawOk E ops = true)
    {a : Act} {fr : Tr TV} {σ : St} (hst : StOk P E C a fr σ sz) {K : Tr TV → St → Option R} {r : R} {Q : Exit → Act → World → Prop} (h : evalDraw E rec rd ops (masks ops.toList []) 0 ops.toList fr σ [] [] K = some r)
    (hK : ∀ D a' fr' σ', StOk P E D a' fr' σ' sz → Adv C D → Tame0 σ σ' → K fr' σ' = some r → Q .normal a' D.w) :
    wpAnyIn F n P .any ops Q ops.size (Array.replicate ops.size false) a C.w := by
  obtain ⟨ss, fr', σ', h1, h2, h3, h4⟩ := draw_steps (ops := ops) (ms := masks ops.toList []) ops.toList [] ⟨fun j s hj => by simp at hj, fun j s hj => by simp at hj⟩ (fun i k s t hi => by simp at hi) h
  have hdr : Drawn E rec rd ops (masks ops.toList []) ss fr σ fr' σ' sz := by
    refine ⟨h1, h2, by simpa using h3, by simpa using masks_ok ops.toList [] [] rfl (fun k o hk => by simp at hk), fun k p hp => ?_, fun k o ho => hfit o (by rw [← Array.getElem?_toList] at ho; exact List.mem_of_getElem? ho), hsz⟩
    have := drawEach_at (ops := ops) hd k p (by rw [Array.getElem?_toList]; exact hp)
    simpa using this
  have hall := (chain_at (i := 0) h2).1
  clear h h2 h3
  have main : ∀ (fuel : Nat) (listed : Array Bool) (C' : Ctx) (a' : Act), listed.size = ops.size → Closed (masks ops.toList []) (fun i => listed.getD i false) →
      StOk P E C' a' (frS (fun i => listed.getD i false) 0 ss fr) (stS E (fun i => listed.getD i false) 0 ss σ) sz → Adv C C' → Tame σ (stS E (fun i => listed.getD i false) 0 ss σ) → listed.toList.count false ≤ fuel →
      wpAnyIn F n P .any ops Q fuel listed a' C'.w := by
    intro fuel
    induction fuel with
    | zero =>
      intro listed C' a' hsize hcl hst' hadv htame hfuel
      have hnone : ∀ i, i < ops.size → listed.getD i false = true := by
        intro i hi
        have hi' : i < listed.size := by omega
        have hc : listed.toList.count false = 0 := by omega
        rw [List.count_eq_zero] at hc
        have hmem : listed[i] ∈ listed.toList := by rw [← Array.getElem_toList hi']; exact List.getElem_mem _
        simp only [Array.getD_eq_getD_getElem?, Array.getElem?_eq_getElem hi', Option.getD_some]
        cases hb : listed[i] with
        | true => rfl
        | false => rw [hb] at hmem; exact absurd hmem hc
      refine ⟨?_, ?_⟩
      · unfold Region.ready
        rw [List.filter_eq_nil_iff]
        intro i hi
        rw [List.mem_range] at hi
        have hi' : i < listed.size := by omega
        have := hnone i hi
        simp only [Array.getD_eq_getD_getElem?, Array.getElem?_eq_getElem hi', Option.getD_some] at this ⊢
        simp [this]
      · have hlen : ss.length = ops.size := by have := congrArg List.length hdr.map; simpa using this
        have e1 : ∀ t, fr'.get t = (frS (fun i => listed.getD i false) 0 ss fr).get t := fun t => by
          rw [← hall.1]
          refine frS_agree rfl fun j x hj _ => ?_
          rw [Nat.zero_add, hnone j (by have := (List.getElem?_eq_some_iff.1 hj).1; omega)]
        have e2 : stS E (fun i => listed.getD i false) 0 ss σ = σ' := by
          rw [← hall.2]
          refine stS_agree fun j x hj _ => ?_
          rw [Nat.zero_add, hnone j (by have := (List.getElem?_eq_some_iff.1 hj).1; omega)]
        rw [e2] at hst' htame
        exact hK C' a' fr' σ' (hst'.fr_eq e1) hadv htame.t0 h4
    | succ fuel ih =>
      intro listed C' a' hsize hcl hst' hadv htame hfuel
      refine ⟨fun hready => ?_, fun k hk => ?_⟩
      · -- nothing is ready: all is done
        have hnone : ∀ m i, i < m → i < ops.size → listed.getD i false = true := by
          intro m
          induction m with
          | zero => intro i hi; omega
          | succ m ihm =>
            intro i hi hlt
            cases hS : listed.getD i false with
            | true => rfl
            | false =>
              exfalso
              have hi' : i < listed.size := by omega
              have hmem : i ∈ Region.ready .any ops listed := by
                unfold Region.ready
                rw [List.mem_filter, List.mem_range]
                refine ⟨hlt, ?_⟩
                have ho : ops[i]? = some ops[i] := Array.getElem?_eq_getElem hlt
                rw [ho]
                simp only [Option.map_some, Option.getD_some, Bool.and_eq_true, Bool.not_eq_true', Array.all_eq_true']
                refine ⟨?_, fun e he => ?_⟩
                · simp only [Array.getD_eq_getD_getElem?, Array.getElem?_eq_getElem hi', Option.getD_some] at hS ⊢; exact hS
                · cases hb : Region.binds .any e with
                  | false => rfl
                  | true =>
                    have hon := (hdr.each i ops[i] ho).1 e (by simpa using he) hb
                    rw [ihm e.on (by omega) (by omega)]; rfl
              rw [hready] at hmem
              cases hmem
        have hnone' : ∀ i, i < ops.size → listed.getD i false = true := fun i hi => hnone (i + 1) i (by omega) hi
        have hlen : ss.length = ops.size := by have := congrArg List.length hdr.map; simpa using this
        have e1 : ∀ t, fr'.get t = (frS (fun i => listed.getD i false) 0 ss fr).get t := fun t => by
          rw [← hall.1]
          refine frS_agree rfl fun j x hj _ => ?_
          rw [Nat.zero_add, hnone' j (by have := (List.getElem?_eq_some_iff.1 hj).1; omega)]
        have e2 : stS E (fun i => listed.getD i false) 0 ss σ = σ' := by
          rw [← hall.2]
          refine stS_agree fun j x hj _ => ?_
          rw [Nat.zero_add, hnone' j (by have := (List.getElem?_eq_some_iff.1 hj).1; omega)]
        rw [e2] at hst' htame
        exact hK C' a' fr' σ' (hst'.fr_eq e1) hadv htame.t0 h4
      · -- one comes up
        unfold Region.ready at hk
        rw [List.mem_filter, List.mem_range] at hk
        obtain ⟨hlt, hk⟩ := hk
        have hlt' : k < listed.size := by omega
        have ho : ops[k]? = some ops[k] := Array.getElem?_eq_getElem hlt
        rw [ho] at hk
        simp only [Option.map_some, Option.getD_some, Bool.and_eq_true, Bool.not_eq_true', Array.all_eq_true'] at hk
        obtain ⟨hk0, hk1⟩ := hk
        have hkS : listed.getD k false = false := by
          simp only [Array.getD_eq_getD_getElem?, Array.getElem?_eq_getElem hlt', Option.getD_some] at hk0 ⊢; exact hk0
        obtain ⟨s, hs, hso⟩ := hdr.step ho
        have hm : ∀ i, ((masks ops.toList []).getD k 0).testBit i = true → (fun i => listed.getD i false) i = true := by
          intro i hi
          obtain ⟨e, he, hb, h5⟩ := hdr.mask k ops[k] (by rw [Array.getElem?_toList]; exact ho) i hi
          have hon : listed.getD e.on false = true := by
            have := hk1 e (by simpa using he)
            rw [hb] at this
            simpa using this
          rcases h5 with rfl | h5
          · exact hon
          · exact hcl e.on hon i h5
        have hS' : (fun i => (listed.setIfInBounds k true).getD i false) = fun j => decide (j = k) || listed.getD j false := by
          funext j
          simp only [Array.getD_eq_getD_getElem?, Array.getElem?_setIfInBounds]
          by_cases hj : k = j
          · subst hj; simp [hlt']
          · rw [if_neg hj]; simp [Ne.symm hj]
        have hcl' : Closed (masks ops.toList []) (fun i => (listed.setIfInBounds k true).getD i false) := by
          rw [hS']
          intro j hj i hi
          simp only [Bool.or_eq_true, decide_eq_true_eq] at hj ⊢
          rcases hj with rfl | hj
          · exact .inr (hm i hi)
          · exact .inr (hcl j hj i hi)
        have hcount : (listed.setIfInBounds k true).toList.count false ≤ fuel := by
          rw [Array.toList_setIfInBounds]
          have : listed.toList[k]? = some false := by
            rw [Array.getElem?_toList, Array.getElem?_eq_getElem hlt']
            simp only [Array.getD_eq_getD_getElem?, Array.getElem?_eq_getElem hlt', Option.getD_some] at hkS
            rw [hkS]
          have := count_set this
          omega
        have hfo : opFit sz ops[k] = true := hdr.fit k _ ho
        have hwant := wantK_sound hst'.fr (yes := some true) (no := some false) (hso ▸ hdr.want hcl hs hkS hm)
        unfold wpOpIn
        simp only [ho]
        rcases hwant with ⟨hw, hsw⟩ | ⟨hw, hsw⟩
        · rw [if_pos hw]
          have hsw : s.w = true := by simpa using hsw.symm
          have hrun := hdr.run hcl hs hkS hm hsw
          rw [hso] at hrun
          unfold opRun at hrun
          refine evalOp_sound hE hrec hF (fun c hc => opRun_defer (E := E) (rec := rec) (rd := rd) (fr := frS (fun i => listed.getD i false) 0 ss fr) (σ := stS E (fun i => listed.getD i false) 0 ss σ) hc (by unfold opRun; exact hrun)) hst' hrun (fun D v σ'' val k1 k2 k3 k4 k5 k6 => ?_) (fun D v σ'' val _ _ _ _ _ k6 => nomatch k6)
          cases k6
          rw [← hS'] at k3 k4
          refine ih _ D _ (by simp [hsize]) hcl' ?_ (hadv.trans k1) (htame.trans k4) hcount
          have := ((hst'.step k1 k2 k3 k4).put hsz (opFit_dst hfo) k5)
          refine this.fr_eq fun t => ?_
          rw [hS', hdr.frame hcl hs hkS t, hso]
        · rw [if_neg (by rw [hw]; simp)]
          have hsw : s.w = false := by simpa using hsw.symm
          have hv : s.v = .tuple [] := (hdr.at hs).2.2.2.2.1 hsw
          have hu : Rep C' Go.undef (.tuple []) := Rep.mkTuple RepL.nil
          refine ⟨fun f _ => hF.fn f, ?_⟩
          have hstill := hdr.still (S := fun i => listed.getD i false) hs hsw
          refine ih _ C' _ (by simp [hsize]) hcl' ?_ hadv (by rw [hS', hstill]; exact htame) hcount
          have := hst'.put hsz (opFit_dst hfo) hu
          rw [hS', hstill]
          refine this.fr_eq fun t => ?_
          rw [hdr.frame hcl hs hkS t, hso, hv]
  have e0 : (fun i => (Array.replicate ops.size false).getD i false) = fun _ => false := by
    funext i
    simp only [Array.getD_eq_getD_getElem?, Array.getElem?_replicate]
    split <;> rfl
  refine main ops.size _ C a (by simp) ?_ ?_ (Adv.refl C) ?_ ?_
  · rw [e0]; intro k hk; cases hk
  · rw [e0, frS_none (fun _ _ => rfl), stS_none (fun _ _ => rfl)]; exact hst
  · rw [e0, stS_none (fun _ _ => rfl)]; exact Tame.refl σ
  · simp
end
end Go.Tv
