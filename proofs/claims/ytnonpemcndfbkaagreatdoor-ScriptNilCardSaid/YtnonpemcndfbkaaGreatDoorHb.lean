/-
  The evaluator: calls, code, rounds.
-/
import Derived.Test.YtnonpemcndfbkaaGreatDoorHa
import Derived.Lib.UnsafeStr
import Derived.Laws.AppendOwn
import Derived.RangeFuncLeaves
import Derived.RangeFuncCalls
import Derived.RecoverIn
import Derived.OrdersIn
import Derived.RangeFuncRecord
import Derived.Scope
/-
  Single operations, part 9: the built-in functions, but append.
-/
namespace Go.Hb
open Go Go.Lib
variable {P : Program} {τ : Nat → Value} {ρ : Ro}
variable {e : PT AV} {nt : Nat} {s s' : St} {w : World} {A : Act} {o : Oper} {v : AV}

/-- What a built-in gives. -/
def Gives (P : Program) (τ : Nat → Value) (ρ : Ro) (s : St) (w : World) (m : Sem Value) (v : AV) (s' : St) : Prop :=
  ∃ u w' ρ', m.run P w = .ok u w' ∧ Rel τ ρ' v u ∧ Sim τ ρ' s' w' ∧ Lat ρ s w ρ' s' w'
theorem Gives.pure {m : Sem Value} {u : Value} (hS : Sim τ ρ s w) (h : m.run P w = .ok u w) (hr : Rel τ ρ v u) : Gives P τ ρ s w m v s := ⟨u, w, ρ, h, hr, hS, .refl⟩
theorem goIntA_rel (n : Nat) : Rel τ ρ (goIntA n) (goInt n) := .int .i64 n
variable {t ty : TypeId} {ts : List TypeId}
theorem len_run {x : AV} {u : Value} (hS : Sim τ ρ s w) (hr : Rel τ ρ x u) (h : lenB P t x s = some v) : ∃ y, (Builtin.len_ ⟨t :: ts⟩ ty ⟨[u]⟩).run P w = .ok y w ∧ Rel τ ρ v y := by
  replace h := oB_eq h; obtain ⟨d, hd, h⟩ := h
  have hd' := run_descT hd w
  split at h
  · cases h; cases hr with | str hs =>
    refine ⟨_, ?_, goIntA_rel _⟩
    rw [len_eq, ← str_size hs]
    simp only [Builtin.len_, Sem.run_bind]
    simp [hd']
  · cases h
    exact ⟨_, by simp [Builtin.len_, hd'], goIntA_rel _⟩
  · cases h; cases hr
    exact ⟨_, by simp [Builtin.len_, hd'], goIntA_rel _⟩
  · cases h; cases hr
    exact ⟨_, by simp [Builtin.len_, hd'], goIntA_rel _⟩
  · cases h; cases hr
    exact ⟨_, by simp [Builtin.len_, hd'], goIntA_rel _⟩
  · replace h := kM_eq h (by simp); obtain ⟨es, c, hrow, h⟩ := h
    cases h
    cases hr with | map hpl =>
    obtain ⟨fs, hf, he⟩ := mapObj hS hpl hrow
    refine ⟨_, ?_, goIntA_rel _⟩
    have hl := he.length
    rw [len_eq, ← hl]
    simp only [Builtin.len_, Sem.run_bind]
    simp [hd', run_getMap hf]
  · cases h
theorem cap_run {x : AV} {u : Value} (hr : Rel τ ρ x u) (h : capB P t x = some v) : ∃ y, (Builtin.cap_ ⟨t :: ts⟩ ty ⟨[u]⟩).run P w = .ok y w ∧ Rel τ ρ v y := by
  replace h := oB_eq h; obtain ⟨d, hd, h⟩ := h
  have hd' := run_descT hd w
  split at h
  · cases h; cases hr
    exact ⟨_, by simp [Builtin.cap_, hd'], goIntA_rel _⟩
  · cases h; cases hr with | sl hpl ha hl hc hb =>
    have := hc _ rfl
    subst this
    exact ⟨_, by simp [Builtin.cap_, hd'], goIntA_rel _⟩
  · cases h
theorem minMax_run {b : Bool} {x y : AV} {ux uy : Value} (hx : Rel τ ρ x ux) (hy : Rel τ ρ y uy) (h : minMax b x y = some v) :
    ∃ z, ((if b then Builtin.max2 ux uy else Builtin.min2 ux uy)).run P w = .ok z w ∧ Rel τ ρ v z := by
  unfold minMax at h
  split at h
  · rename_i k p l q
    cases hx; cases hy
    split at h
    · cases h
      cases b
      · refine ⟨_, rfl, ?_⟩
        show Rel τ ρ (.int _ (match ltI q p with | true => q | false => p)) _
        rw [ltI_eq]
        by_cases hq : q < p <;> simp [hq] <;> exact .int _ _
      · refine ⟨_, rfl, ?_⟩
        show Rel τ ρ (.int _ (match ltI p q with | true => q | false => p)) _
        rw [ltI_eq]
        by_cases hq : p < q <;> simp [hq] <;> exact .int _ _
    · cases h
  · cases h
theorem foldMM_run {b : Bool} : ∀ (l : List AV) (us : List Value) (x : AV) (ux : Value) (v : AV), RelL τ ρ l us → Rel τ ρ x ux → foldMM b x l = some v →
    ∃ z, (us.foldlM (if b then Builtin.max2 else Builtin.min2) ux).run P w = .ok z w ∧ Rel τ ρ v z := by
  intro l
  induction l with
  | nil => intro us x ux v hl hx h; cases hl; cases h; exact ⟨ux, by simp, hx⟩
  | cons y l ih =>
    intro us x ux v hl hx h
    cases hl with | cons hy hl =>
    replace h := oB_eq (show oB (minMax b x y) (fun z => foldMM b z l) = some v from h); obtain ⟨z, hz, h⟩ := h
    obtain ⟨uz, hu, hrz⟩ := minMax_run (P := P) (w := w) hx hy hz
    obtain ⟨r, hr, hrr⟩ := ih _ _ _ _ hl hrz h
    refine ⟨r, ?_, hrr⟩
    cases b <;> simp at hu hr ⊢ <;> simp [hu, hr]
theorem sliceData_run {x : AV} {u : Value} {ats : Array TypeId} (hr : Rel τ ρ x u) (h : sliceDataA x = some v) : ∃ y, (Builtin.unsafeSliceData_ ats ty ⟨[u]⟩).run P w = .ok y w ∧ Rel τ ρ v y := by
  unfold sliceDataA at h
  split at h
  · cases h; cases hr; exact ⟨_, rfl, .nptr⟩
  · rename_i i of n cp sz
    rw [natBeq_eq] at h
    split at h
    · cases h
    · rename_i hn
      cases h
      cases hr with | sl hpl ha hl hc hb =>
      rename_i c a pl
      have hn : ¬ n = 0 := by simpa using hn
      have hc0 : c ≠ 0 := by omega
      refine ⟨_, run_unsafeSliceData_row w ats ty _ _ _ hc0, ?_⟩
      rcases ha with h0 | ha
      · exact absurd h0 hc0
      · rw [ha]; exact .ptr hpl
  · cases h
theorem clear_run {x : AV} {u : Value} (hτ : Plain τ) (hS : Sim τ ρ s w) (hr : Rel τ ρ x u) (h : clearA P t x s = some s') : ∃ w', (Builtin.clear_ ⟨t :: ts⟩ ty ⟨[u]⟩).run P w = .ok undef w' ∧ Sim τ ρ s' w' ∧ Lat ρ s w ρ s' w' := by
  replace h := oB_eq h; obtain ⟨d, hd, h⟩ := h
  have hd' := run_descT hd w
  split at h
  · cases h; cases hr; exact ⟨w, by simp [Builtin.clear_, hd', undef], hS, .refl⟩
  · replace h := kM_eq h (by simp); obtain ⟨es, c, hrow, h⟩ := h
    cases h
    cases hr with | map hpl =>
    obtain ⟨fs, hf, he⟩ := mapObj hS hpl hrow
    have := sim_setMap (c' := c) hS hpl hrow (fs' := #[]) (es' := []) .nil
    refine ⟨_, ?_, this⟩
    simp only [Builtin.clear_, Sem.run_bind]
    simp [hd', run_getMap hf, run_setMap hf, undef]
  · cases h; cases hr; exact ⟨w, by simp [Builtin.clear_, hd', undef], hS, .refl⟩
  · rename_i el i of n cp sz
    replace h := oB_eq h; obtain ⟨z, hz, h⟩ := h
    cases hr with | sl hpl ha hl hc hb =>
    rename_i c a pl
    rw [natBeq_eq, natBeq_eq, natBeq_eq, len_eq] at h
    by_cases hn : n = 0
    · subst hn
      simp at h
      subst h
      exact ⟨w, by simp [Builtin.clear_, hd', undef], hS, .refl⟩
    · simp only [hn, decide_false] at h
      split at h <;> first | (cases h; done) | skip
      · cases ‹false = true›
      · rename_i h1 h2 _
        rw [decide_eq_true_eq] at h1
        rw [decide_eq_false_iff_not] at h2
        obtain ⟨y, hy, hry⟩ := zeroT_all hz
        have hcs := (hry τ ρ).cells hτ
        have hzr := zeros_rel (n := n) hcs h1 h2
        have hcz : y.cells.size = sz := by have := hcs.length; simp at this; omega
        have ha' : a = pl.o + of := by omega
        subst ha'
        obtain ⟨w', hrun, r1, r2⟩ := writeA_run (P := P) hτ hS hpl hzr h
        refine ⟨w', ?_, r1, r2⟩
        have hz' : Builtin.zeroCells y.cells n = (Array.range (n * sz)).map (y.cells[· % y.cells.size]!) := by
          simp only [Builtin.zeroCells, hcz]
        obtain ⟨n, rfl⟩ : ∃ m, n = m + 1 := ⟨n - 1, by omega⟩
        simp only [Builtin.clear_, Sem.run_bind]
        simp only [List.getElem?_toArray, List.getElem?_cons_zero, hd', Sem.run_bind, Result.andThen_ok, hy, hz', hrun, Sem.run_pure, undef]
  · cases h

end Go.Hb

/-
  Single operations, part 10: delete, copy, strings of bytes in cells.
-/
namespace Go.Hb
open Go Go.Lib
variable {P : Program} {τ : Nat → Value} {ρ : Ro}
variable {e : PT AV} {nt : Nat} {s s' : St} {w : World} {A : Act} {o : Oper} {v : AV} {t ty : TypeId} {ts : List TypeId}

theorem putObj_same {b : Nat} {o : Obj} (h : w.heap[b]? = some o) : w.putObj b o = w := by
  have : w.heap.setIfInBounds b o = w.heap := by
    apply Array.ext_getElem?
    intro i
    rw [Array.getElem?_setIfInBounds]
    by_cases hi : b = i
    · subst hi
      obtain ⟨h1, h2⟩ := Array.getElem?_eq_some_iff.1 h
      simp [h1, h2]
    · simp [hi]
  simp [World.putObj, this]
theorem delete_run {m k : AV} {um uk : Value} (hS : Sim τ ρ s w) (hr : Rel τ ρ m um) (hrk : Rel τ ρ k uk) (h : deleteA P t m k s = some s') :
    ∃ w', (Builtin.delete_ ⟨t :: ts⟩ ty ⟨[um, uk]⟩).run P w = .ok undef w' ∧ Sim τ ρ s' w' ∧ Lat ρ s w ρ s' w' := by
  replace h := oB_eq h; obtain ⟨p, hp, h⟩ := h
  split at h
  · rename_i hkv
    have hck := fun b => checkKey_run (P := P) (w := w) 3 10000 b p.1 _ _ (by omega) hrk hkv
    obtain ⟨d, hd⟩ := keyV_desc hkv
    have hu := mapT_eq hp
    split at h
    · cases h; cases hr
      refine ⟨w, ?_, hS, .refl⟩
      simp only [Builtin.delete_]
      simp [run_underT hu, hck, undef]
    · cases hr with | map hpl =>
      replace h := kM_eq h (by simp); obtain ⟨es, cl, hrow, h⟩ := h
      obtain ⟨fs, hf, he⟩ := mapObj hS hpl hrow
      replace h := oB_eq h; obtain ⟨r, hr, h⟩ := h
      obtain ⟨r', hr', hrel⟩ := findA_run (P := P) hd hS hrk he hr
      split at h
      · rename_i q
        cases h
        cases r' with
        | none => cases hrel
        | some q' =>
          obtain ⟨j, uv⟩ := q'
          obtain ⟨j', uv'⟩ := q
          obtain ⟨hj, hrv'⟩ := hrel
          have hj : j' = j := hj
          subst hj
          have := sim_setMap (c' := cl) hS hpl hrow (fs' := fs.eraseIdxIfInBounds j') (es' := delEnt es j') (by
            rw [Array.toList_eraseIdxIfInBounds]; exact he.del j')
          refine ⟨_, ?_, this⟩
          simp only [Builtin.delete_]
          simp [run_underT hu, run_getMap hf, hck, hr', run_setMap hf, undef]
      · cases h
        cases r' with
        | some q => cases hrel
        | none =>
          have hsame : w.putObj _ (.map fs cl) = w := putObj_same hf
          refine ⟨w, ?_, hS, .refl⟩
          simp only [Builtin.delete_]
          simp [run_underT hu, run_getMap hf, hck, hr', run_setMap hf, undef, hsame]
    · cases h
  · cases h

theorem lenA_run {x : AV} {u : Value} {n : Nat} (hr : Rel τ ρ x u) (h : lenA x = some n) : (Builtin.lenOf u).run P w = .ok n w := by
  unfold lenA at h
  split at h <;> first | (cases h; done) | skip
  · cases h; cases hr; rfl
  · cases h; cases hr; rfl
  · cases h; cases hr with | str hs => rw [len_eq, ← str_size hs]; rfl
theorem byteAV_rel (l : List UInt8) : RelL τ ρ ((l.map UInt8.toNat).map byteAV) (l.map fun b => Value.int .u8 b.toNat) := by
  induction l with
  | nil => exact .nil
  | cons b l ih => exact .cons (.int .u8 b.toNat) ih
theorem firstA_run {sz n l : Nat} {x : AV} {u : Value} {ys : List AV} (hS : Sim τ ρ s w) (hr : Rel τ ρ x u) (hl : lenA x = some l) (hn : n ≤ l) (h : firstA sz n x s = some ys) :
    ∃ us : List Value, (Builtin.firstCells sz n u).run P w = .ok ⟨us⟩ w ∧ RelL τ ρ ys us ∧ ys.length = n * sz := by
  unfold firstA at h
  split at h
  · cases h; cases hr; cases hl
    have : n = 0 := by omega
    subst this
    exact ⟨[], rfl, .nil, by simp⟩
  · rename_i i of m c z
    cases hr with | sl hpl ha hle hc hb =>
    rename_i cc a pl
    have hl : m = l := by cases hl; rfl
    subst hl
    rw [natBeq_eq] at h
    split at h <;> first | (cases h; done) | skip
    rename_i hz
    rw [decide_eq_true_eq] at hz
    subst hz
    replace h := kR_eq h (by simp); obtain ⟨cs, kn, tw, md, ty, hrow, h⟩ := h
    obtain ⟨pl', hp', C, fz, r⟩ := hS.ob i _ hrow
    rw [hpl] at hp'; cases hp'
    obtain ⟨us, hlen, hrel, hcell, _⟩ := r.getL h
    refine ⟨us, ?_, hrel, (hrel.length).symm.trans hlen⟩
    simp only [Builtin.firstCells]
    refine run_loadCells' r.blk us hlen fun k hk => ?_
    rcases ha with h0 | ha
    · have : n = 0 := by omega
      subst this
      simp at hk
    · rw [ha]; exact hcell k hk
  · rename_i b
    cases hr with | str hs =>
    rename_i bs
    rw [natBeq_eq] at h
    split at h <;> first | (cases h; done) | skip
    rename_i hz
    rw [decide_eq_true_eq] at hz
    subst hz
    cases h
    have hl : b.length = l := by rw [← len_eq]; exact Option.some.inj hl
    refine ⟨((bs.data.toList.take n).map fun b => Value.int .u8 b.toNat), ?_, ?_, ?_⟩
    · simp only [Builtin.firstCells, Sem.run_pure, Result.ok.injEq, and_true]
      apply Array.ext'
      simp [ByteArray.data_extract]
    · rw [bytesAV_eq, takeN_eq, ← hs, ← List.map_take]
      exact byteAV_rel _
    · rw [bytesAV_eq, takeN_eq, List.length_map, List.length_take]; omega
  · cases h
theorem firstZero_run {sz l : Nat} {x : AV} {u : Value} (hr : Rel τ ρ x u) (hl : lenA x = some l) : (Builtin.firstCells sz 0 u).run P w = .ok ⟨[]⟩ w := by
  unfold lenA at hl
  split at hl <;> first | (cases hl; done) | skip
  · cases hr; rfl
  · cases hr
    simp only [Builtin.firstCells, Nat.zero_mul]
    rfl
  · cases hr
    simp [Builtin.firstCells]
theorem copy_run {d x : AV} {ud ux : Value} (hτ : Plain τ) (hS : Sim τ ρ s w) (hd : Rel τ ρ d ud) (hx : Rel τ ρ x ux) (h : copyA P t d x s = some (v, s')) :
    Gives P τ ρ s w (Builtin.copy_ ⟨t :: ts⟩ ty ⟨[ud, ux]⟩) v s' := by
  replace h := oB_eq h; obtain ⟨p, hp, h⟩ := h
  replace h := oB_eq h; obtain ⟨l, hl, h⟩ := h
  obtain ⟨hu, hsz⟩ := elemT_eq hp
  have hlr := fun w : World => lenA_run (P := P) (w := w) hx hl
  split at h
  · cases h; cases hd
    refine .pure hS ?_ (goIntA_rel 0)
    simp only [Builtin.copy_]
    simp [run_underT hu, hlr, firstZero_run hx hl, run_sizeT hsz]
  · rename_i i of m cp z
    cases hd with | sl hpl ha hle hc hb =>
    rename_i c a pl
    rw [natBeq_eq, natBeq_eq, natBeq_eq] at h
    split at h <;> first | (cases h; done) | skip
    rename_i hz h0
    rw [decide_eq_true_eq] at hz
    subst hz
    by_cases hm : min l m = 0
    · simp only [hm, decide_true] at h
      cases h
      refine .pure hS ?_ (goIntA_rel 0)
      have hm' : Nat.min l m = 0 := hm
      simp only [Builtin.copy_]
      simp only [List.getElem?_toArray, List.getElem?_cons_zero, List.getElem?_cons_succ, Sem.run_bind, run_underT hu, Result.andThen_ok, hlr, hm', run_sizeT hsz, firstZero_run hx hl]
      rfl
    · simp only [hm, decide_false] at h
      replace h := oB_eq h; obtain ⟨ys, hys, h⟩ := h
      replace h := oB_eq h; obtain ⟨s1, hs1, h⟩ := h
      cases h
      obtain ⟨us, hus, hrel, _⟩ := firstA_run (P := P) hS hx hl (Nat.min_le_left l m) hys
      obtain ⟨w', hrun, r1, r2⟩ := writeA_run (P := P) hτ hS hpl hrel hs1
      have ha' : a = pl.o + of := by omega
      subst ha'
      refine ⟨_, w', ρ, ?_, goIntA_rel (min l m), r1, r2⟩
      have hm' : Nat.min l m = min l m := rfl
      simp only [Builtin.copy_]
      simp only [List.getElem?_toArray, List.getElem?_cons_zero, List.getElem?_cons_succ, Sem.run_bind, run_underT hu, Result.andThen_ok, hlr, hm', run_sizeT hsz, hus, hrun, Sem.run_pure]
  · cases h
theorem unsafeString_run {x n : AV} {ux un : Value} (hS : Sim τ ρ s w) (hx : Rel τ ρ x ux) (hn : Rel τ ρ n un) (h : unsafeStringA P t x n s = some (v, s')) :
    Gives P τ ρ s w (Builtin.unsafeString_ ⟨t :: ts⟩ ty ⟨[ux, un]⟩) v s' := by
  replace h := oB_eq h; obtain ⟨k, hk, h⟩ := h
  obtain ⟨kk, rfl⟩ := natA_eq hk
  cases hn
  have hmax : IntKind.i64.max = 9223372036854775807 := rfl
  have h0' : ¬ ((k : Int) < 0) := by omega
  split at h
  · rw [natBeq_eq] at h
    split at h <;> first | (cases h; done) | skip
    rename_i hz
    rw [decide_eq_true_eq] at hz
    subst hz
    cases h; cases hx
    refine .pure hS (u := .string .empty) ?_ (.str rfl)
    obtain ⟨r1, r2, r3, hdef⟩ : ∃ (r1 r2 : Sem Unit) (r3 : Sem Value), Builtin.unsafeString_ ⟨t :: ts⟩ ty ⟨[.pointer none, .int kk (0 : Nat)]⟩ =
        (do
          let n ← asInt (.int kk (0 : Nat))
          if n < 0 then r1
          if n > IntKind.i64.max then r2
          if n = 0 then pure (.string .empty)
          else r3) := ⟨_, _, _, rfl⟩
    rw [hdef]
    simp [asInt, asIntOf, hmax]
  · rename_i i of
    cases hx with | ptr hpl =>
    rename_i pl
    obtain ⟨r1, r2, r3, hdef⟩ : ∃ (r1 r2 : Sem Unit) (r3 : Sem Value), Builtin.unsafeString_ ⟨t :: ts⟩ ty ⟨[.pointer (some ⟨pl.b, pl.o + of, none⟩), .int kk k]⟩ =
      (do
        let n ← asInt (.int kk k)
        if n < 0 then r1
        if n > IntKind.i64.max then r2
        if n = 0 then pure (.string .empty)
        else if ← variablesAt ⟨pl.b, pl.o + of, none⟩ (← elemOf t) n.toNat then do
          let s ← loadBytes ⟨pl.b, pl.o + of, none⟩ .empty n.toNat
          freeze ⟨pl.b, pl.o + of, none⟩ n.toNat
          pure (.string s)
        else r3) := ⟨_, _, _, rfl⟩
    rw [natBeq_eq] at h
    by_cases hz : k = 0
    · subst hz
      simp only [decide_true] at h
      cases h
      refine .pure hS (u := .string .empty) ?_ (.str rfl)
      rw [hdef]
      simp [asInt, asIntOf, hmax]
    · simp only [hz, decide_false] at h
      replace h := kR_eq h (by simp); obtain ⟨cs, kn, tw, md, ty', hrow, h⟩ := h
      replace h := oB_eq h; obtain ⟨pd, hpd, h⟩ := h
      split at h <;> first | (cases h; done) | skip
      rename_i u
      replace h := oB_eq h; obtain ⟨z, hz1, h⟩ := h
      rw [natBeq_eq, natBeq_eq, natBle_eq, natBle_eq] at h
      split at h <;> first | (cases h; done) | skip
      rename_i g1 g2 g3 g4
      rw [decide_eq_true_eq] at g1 g2 g3 g4
      subst g1; subst g2
      replace h := oB_eq h; obtain ⟨ls, hls, h⟩ := h
      replace h := oB_eq h; obtain ⟨b, hb, h⟩ := h
      cases h
      obtain ⟨pl', hp', C, fz, r⟩ := hS.ob i _ hrow
      rw [hpl] at hp'; cases hp'
      obtain ⟨vs, hlen, hrel, hcell, hbnd⟩ := r.getL hls
      obtain ⟨e1, e2⟩ := bytesOf_eq _ _ _ hb hrel
      have hbl : (b.map UInt8.ofNat).length = k := by rw [List.length_map, ← hlen, e1, List.length_map]
      have hback : (b.map UInt8.ofNat).map UInt8.toNat = b := by
        rw [List.map_map]
        conv => rhs; rw [← List.map_id b]
        exact List.map_congr_left fun x hx => by
          have := e2 x hx
          show (UInt8.ofNat x).toNat = x
          simp; omega
      have hcells : ∀ j x, (b.map UInt8.ofNat)[j]? = some x → w.cell? ((⟨pl.b, pl.o + of, none⟩ : Addr).add j) = some (.int .u8 x.toNat) := fun j x hj => by
        rw [add_none]
        have hjk : j < k := by rw [← hbl]; exact (List.getElem?_eq_some_iff.1 hj).1
        simp only [World.cell?, r.blk]
        have := hcell j hjk
        rw [e1, ← hback, List.map_map, List.getElem?_map, hj] at this
        simpa using this
      have hlb := run_loadBytes (P := P) w (b.map UInt8.ofNat) ⟨pl.b, pl.o + of, none⟩ .empty hcells
      rw [hbl] at hlb
      have hb1 := hbnd (Nat.pos_of_ne_zero hz)
      obtain ⟨ii, hi, hs1⟩ := oB_eq hz1
      have hsz : ii.size = 1 := Option.some.inj hs1
      have hc1 : P.cellsOf u = 1 := by simp [Program.cellsOf, infoT_eq hi, hsz]
      have hv : (variablesAt ⟨pl.b, pl.o + of, none⟩ u k).run P w = .ok true w := by
        obtain ⟨d, hd⟩ := depth_pos P
        have hrow : rowAt P (sameLayout P P.depth · u) P.depth u (C.size / 1) (pl.o + of) k = true := by
          rw [hd]
          unfold rowAt
          simp only [hc1]
          simp [hb1, sameLayout, Nat.mod_one]
        simp only [variablesAt, Sem.run_bind, run_program, Result.andThen_ok, run_shape, World.shape?, r.blk, Sem.run_pure, hc1]
        congr 1
        rw [hd]
        unfold liesAt
        rw [hrow]
        rfl
      have hf : ¬ fixedOb (.row cs kn tw md u) := fun e => by
        have : md = 3 := e
        omega
      obtain ⟨fz', hfz1⟩ : ∃ fz' : Nat × Nat, (w.freeze ⟨pl.b, pl.o + of, none⟩ k).heap[pl.b]? = some (.cells C u fz') := by
        simp only [World.freeze, if_neg hz, Array.getElem?_modify, if_true, r.blk, Option.map_some]
        exact ⟨_, rfl⟩
      have hoth : ∀ b, b ≠ pl.b → (w.freeze ⟨pl.b, pl.o + of, none⟩ k).heap[b]? = w.heap[b]? := fun b hb => by
        simp only [World.freeze, if_neg hz, Array.getElem?_modify, if_neg (Ne.symm hb)]
      have hsize : (w.freeze ⟨pl.b, pl.o + of, none⟩ k).heap.size = w.heap.size := by
        simp only [World.freeze, if_neg hz, Array.size_modify]
      have hw : (w.freeze ⟨pl.b, pl.o + of, none⟩ k).tape = w.tape ∧ (w.freeze ⟨pl.b, pl.o + of, none⟩ k).os = w.os ∧ (w.freeze ⟨pl.b, pl.o + of, none⟩ k).output = w.output := by
        simp only [World.freeze, if_neg hz]; exact ⟨trivial, trivial, trivial⟩
      obtain ⟨a1, b1'⟩ := sim_upd (x := tw) (ob := .row cs kn none 2 u) hS hrow hpl hf hsize hoth hw.1 hw.2.1 hw.2.2
        ⟨C, fz', hfz1, r.size, r.cell, r.top, (fun h => by cases h), fun h => by omega⟩ (.inr rfl)
      refine ⟨.string ⟨(b.map UInt8.ofNat).toArray⟩, _, ρ, ?_, .str (by simpa using hback), a1, b1'⟩
      rw [hdef]
      have h63' : ¬ (9223372036854775807 : Int) < (k : Int) := by omega
      simp [asInt, asIntOf, hmax, h63', h0', hz, elemOf, run_descT hpd, hv, hlb]
  · cases h
end Go.Hb

/-
  What append does in the model.
-/
namespace Go.Hb
open Go Go.Lib
variable {P : Program} {w : World} {t ty el : TypeId} {sz n l c : Nat} {i : TypeInfo} {z : Value}

theorem intT_eq {u : TypeId} {b : Bool} (h : intT P u = some b) : ∃ d, P.underlying u = some d ∧ (match d with | .int _ => true | _ => false) = b := by
  replace h := oB_eq h; obtain ⟨d, hd, h⟩ := h
  refine ⟨d, descT_eq hd, ?_⟩
  cases d <;> cases h <;> rfl
structure AppT (P : Program) (t el : TypeId) (sz : Nat) (i : TypeInfo) (z : Value) : Prop where
  under : P.underlying t = some (.slice el)
  size : ∀ w : World, (sizeOf el).run P w = .ok sz w
  info : ∀ w : World, (typeInfo el).run P w = .ok i w
  zero : ∀ w : World, (zeroValue el).run P w = .ok z w
theorem wrap_small {n : Nat} (h : n ≤ 1000000) : IntKind.i64.wrap (n : Int) = n := by rw [IntKind.wrap_i64]; omega
theorem bound1 {m b k : Nat} (h : m * (b + 1) ≤ 1000000) (hk : k ≤ m) : k ≤ 1000000 ∧ k * b ≤ 1000000 := by
  have h1 : m * (b + 1) = m * b + m := by rw [Nat.mul_add, Nat.mul_one]
  have h2 : k * b ≤ m * b := Nat.mul_le_mul_right _ hk
  omega
theorem grow_small {m b c : Nat} (h : m * (b + 1) ≤ 1000000) (hc : c < m) : ¬ (281474976710656 < Builtin.nextslicecap m c * b) := by
  have h1 := nextslicecap_le hc
  have h2 := (bound1 h (Nat.le_refl m)).2
  have h3 : Builtin.nextslicecap m c * b ≤ 2 * m * b := Nat.mul_le_mul_right _ h1
  rw [Nat.mul_assoc] at h3
  omega
section
variable {ts : List TypeId} (T : AppT P t el sz i z) (hbd : (l + n) * (i.bytes + 1) ≤ 1000000)
include T hbd
theorem append_fit0 (hts : zerosT P ts = some false) {x : Value} {us : List Value} (hl : (Builtin.lenOf x).run P w = .ok n w) (hf : (Builtin.firstCells sz n x).run P w = .ok ⟨us⟩ w)
    (a : Addr) (hfit : l + n ≤ c) {w' : World} (hst : (storeCells (a.add (l * sz)) us).run P w = .ok () w') :
    (Builtin.append_ ⟨t :: ts⟩ ty ⟨[.slice (some a) l c, x]⟩).run P w = .ok (.slice (some a) (l + n) c) w' := by
  have _ := hbd
  rcases ts with _ | ⟨u, ts⟩
  · simp [Builtin.append_, run_underT T.under, T.size, hl, hf, hfit, hst]
  · obtain ⟨d, hd, hdz⟩ := intT_eq (show intT P u = some false from hts)
    simp [Builtin.append_, run_underT T.under, run_underT hd, hdz, T.size, hl, hf, hfit, hst]
    cases d <;> first | (cases hdz; done) | simp [hl, hf, hfit, hst]
theorem append_nil0 (hts : zerosT P ts = some false) {x : Value} (hl : (Builtin.lenOf x).run P w = .ok 0 w) (hf : (Builtin.firstCells sz 0 x).run P w = .ok ⟨[]⟩ w) :
    (Builtin.append_ ⟨t :: ts⟩ ty ⟨[.slice none 0 0, x]⟩).run P w = .ok (.slice none 0 0) w := by
  have _ := hbd
  rcases ts with _ | ⟨u, ts⟩
  · simp [Builtin.append_, run_underT T.under, T.size, hl, hf]
  · obtain ⟨d, hd, hdz⟩ := intT_eq (show intT P u = some false from hts)
    simp [Builtin.append_, run_underT T.under, run_underT hd, hdz, T.size, hl, hf]
    cases d <;> first | (cases hdz; done) | simp [hl, hf]
theorem append_grow0 (hts : zerosT P ts = some false) {x : Value} {us olds : List Value} (hl : (Builtin.lenOf x).run P w = .ok n w) (hf : (Builtin.firstCells sz n x).run P w.drew = .ok ⟨us⟩ w.drew)
    (base : Option Addr) (hgr : c < l + n) (ho : (Builtin.firstCells sz l (.slice base l c)).run P w.drew = .ok ⟨olds⟩ w.drew) :
    (Builtin.append_ ⟨t :: ts⟩ ty ⟨[.slice base l c, x]⟩).run P w =
      .ok (.slice (some ⟨w.heap.size, 0, none⟩) (l + n) (grownCap w (l + n) c el)) (w.drew.alloc (.cells (⟨olds⟩ ++ ⟨us⟩ ++ Builtin.zeroCells z.cells (grownCap w (l + n) c el - (l + n))) el)) := by
  have h1 : ¬ (l + n ≤ c) := by omega
  have h2 := (bound1 hbd (Nat.le_refl _)).1
  have h63 : ¬ (9223372036854775807 < ((l : Int) + (n : Int))) := by omega
  have h48 := grow_small hbd hgr
  rcases ts with _ | ⟨u, ts⟩
  · simp [Builtin.append_, run_underT T.under, T.size, T.info, T.zero, hl, hf, h1, h63, h48, ho, Question.forced, newRow, grownCap]
    all_goals (congr 2; apply Array.ext'; simp)
  · obtain ⟨d, hd, hdz⟩ := intT_eq (show intT P u = some false from hts)
    simp [Builtin.append_, run_underT T.under, run_underT hd, hdz, T.size, T.info, T.zero]
    cases d <;> first | (cases hdz; done) | simp [hl, hf, h1, h63, h48, ho, T.zero, T.info, Question.forced, newRow, grownCap]
    all_goals (congr 2; apply Array.ext'; simp)
theorem append_fit1 (hts : zerosT P ts = some true) {k : IntKind} {us : List Value} (hf : n * sz ≠ 0 → (⟨us⟩ : Array Value) = Builtin.zeroCells z.cells n) (hf0 : n * sz = 0 → us = [])
    (a : Addr) (hfit : l + n ≤ c) {w' : World} (hst : (storeCells (a.add (l * sz)) us).run P w = .ok () w') :
    (Builtin.append_ ⟨t :: ts⟩ ty ⟨[.slice (some a) l c, .int k n]⟩).run P w = .ok (.slice (some a) (l + n) c) w' := by
  rcases ts with _ | ⟨u, ts⟩
  · cases hts
  · obtain ⟨d, hd, hdz⟩ := intT_eq (show intT P u = some true from hts)
    obtain ⟨h2, h3⟩ := bound1 hbd (Nat.le_add_left n l)
    have hw := wrap_small h2
    have h48 : ¬ (281474976710656 < (n : Int) * (i.bytes : Int)) := by rw [← Int.natCast_mul]; omega
    have hneg : ¬ ((n : Int) < 0) := by omega
    cases d <;> first | (cases hdz; done) | skip
    by_cases h0 : n * sz = 0
    · have := hf0 h0
      subst this
      simp [Builtin.append_, run_underT T.under, run_underT hd, T.size, T.info, asInt, asIntOf, hw, h48, hneg, hfit, h0, hst]
    · have := hf h0
      have hst' : (storeCells (a.add (l * sz)) (Builtin.zeroCells z.cells n).toList).run P w = .ok () w' := by rw [← this]; exact hst
      simp [Builtin.append_, run_underT T.under, run_underT hd, T.size, T.info, T.zero, asInt, asIntOf, hw, h48, hneg, hfit, h0, hst']
theorem append_nil1 (hts : zerosT P ts = some true) {k : IntKind} :
    (Builtin.append_ ⟨t :: ts⟩ ty ⟨[.slice none 0 0, .int k (0 : Nat)]⟩).run P w = .ok (.slice none 0 0) w := by
  have _ := hbd
  rcases ts with _ | ⟨u, ts⟩
  · cases hts
  · obtain ⟨d, hd, hdz⟩ := intT_eq (show intT P u = some true from hts)
    have hw := wrap_small (Nat.zero_le 1000000)
    cases d <;> first | (cases hdz; done) | skip
    simp at hw
    simp [Builtin.append_, run_underT T.under, run_underT hd, T.size, T.info, asInt, asIntOf, hw]
theorem append_grow1 (hts : zerosT P ts = some true) {k : IntKind} {us olds : List Value} (hf : (⟨us⟩ : Array Value) = Builtin.zeroCells z.cells n) (h0 : n * sz ≠ 0)
    (base : Option Addr) (hgr : c < l + n) (ho : (Builtin.firstCells sz l (.slice base l c)).run P w.drew = .ok ⟨olds⟩ w.drew) :
    (Builtin.append_ ⟨t :: ts⟩ ty ⟨[.slice base l c, .int k n]⟩).run P w =
      .ok (.slice (some ⟨w.heap.size, 0, none⟩) (l + n) (grownCap w (l + n) c el)) (w.drew.alloc (.cells (⟨olds⟩ ++ ⟨us⟩ ++ Builtin.zeroCells z.cells (grownCap w (l + n) c el - (l + n))) el)) := by
  have h1 : ¬ (l + n ≤ c) := by omega
  have h2 := (bound1 hbd (Nat.le_refl _)).1
  have h63 : ¬ (9223372036854775807 < ((l : Int) + (n : Int))) := by omega
  have h48' := grow_small hbd hgr
  rcases ts with _ | ⟨u, ts⟩
  · cases hts
  · obtain ⟨d, hd, hdz⟩ := intT_eq (show intT P u = some true from hts)
    obtain ⟨h2, h3⟩ := bound1 hbd (Nat.le_add_left n l)
    have hw := wrap_small h2
    have h48 : ¬ (281474976710656 < (n : Int) * (i.bytes : Int)) := by rw [← Int.natCast_mul]; omega
    have hneg : ¬ ((n : Int) < 0) := by omega
    cases d <;> first | (cases hdz; done) | skip
    simp [Builtin.append_, run_underT T.under, run_underT hd, T.size, T.info, T.zero, asInt, asIntOf, hw, h48, h48', hneg, h0, h1, h63, ho, Question.forced, newRow, grownCap, ← hf]
    all_goals (congr 2; apply Array.ext'; simp)
end
end Go.Hb

/-
  append: what the evaluator says, the model does.
-/
namespace Go.Hb
open Go Go.Lib
variable {P : Program} {τ : Nat → Value} {ρ : Ro}
variable {s s' : St} {w : World} {v : AV}

/-- A new object in the block of another that is its twin. -/
theorem sim_share (h : Sim τ ρ s w) {i : Nat} {oi ob : Ob} {pl pl2 : Pl} (ho : s.h.get i = some oi) (hp : ρ i = some pl) (ht1 : twinOf (some oi) = some s.nx) (hf1 : ¬ fixedOb oi)
    (ht2 : twinOf (some ob) = some i) (hf2 : ¬ fixedOb ob) (hb : pl2.b = pl.b) (hob : ObRel τ (upd ρ s.nx pl2) w pl2 ob) :
    Sim τ (upd ρ s.nx pl2) (s.put ob) w ∧ Lat ρ s w (upd ρ s.nx pl2) (s.put ob) w := by
  have hle := le_upd h pl2 (Nat.le_refl _)
  have hne : ∀ j q, ρ j = some q → j ≠ s.nx := fun j q hq e => by have := h.lt hq; omega
  -- who else lies there is the twin
  have honly : ∀ j oj q, j ≠ s.nx → s.h.get j = some oj → ρ j = some q → q.b = pl.b → j = i := fun j oj q hj hoj hq hqb => by
    apply Classical.byContradiction
    intro hji
    have := (h.sep i j oi oj pl q (Ne.symm hji) ho hoj hp hq hqb.symm).1
    rw [ht1] at this
    cases this
    exact hj rfl
  refine ⟨⟨?_, ?_, ?_, ?_⟩, ⟨by rw [nx_put_St]; omega, ?_, fun _ _ _ => rfl, ?_, Nat.le_refl _, rfl, rfl, rfl⟩⟩
  · intro j o' hj
    rw [get_put_St] at hj
    by_cases hjn : j = s.nx
    · subst hjn; rw [if_pos rfl] at hj; cases hj; exact ⟨_, upd_same _ _ _, hob⟩
    · rw [if_neg hjn] at hj
      obtain ⟨q, hq, r⟩ := h.ob j o' hj
      exact ⟨q, by rw [upd_ne hjn]; exact hq, r.keep hle rfl⟩
  · intro j k oj ok p q hjk hj hk hp' hq hpq
    rw [get_put_St] at hj hk
    by_cases ej : j = s.nx
    · by_cases ek : k = s.nx
      · exact absurd (ej.trans ek.symm) hjk
      · rw [if_pos ej] at hj; cases hj
        rw [if_neg ek] at hk
        rw [upd_ne ek] at hq
        subst ej
        rw [upd_same] at hp'; cases hp'
        have := honly k ok q ek hk hq (hpq.symm.trans hb)
        subst this
        exact ⟨ht2, hf2⟩
    · rw [if_neg ej] at hj
      rw [upd_ne ej] at hp'
      by_cases ek : k = s.nx
      · rw [if_pos ek] at hk; cases hk
        subst ek
        rw [upd_same] at hq; cases hq
        have := honly j oj p ej hj hp' (hpq.trans hb)
        subst this
        rw [ho] at hj; cases hj
        exact ⟨ht1, hf1⟩
      · rw [if_neg ek] at hk
        rw [upd_ne ek] at hq
        exact h.sep j k oj ok p q hjk hj hk hp' hq hpq
  · intro j hj
    rw [nx_put_St] at hj
    rw [upd_ne (by omega)]
    exact h.top j (by omega)
  · intro g hg
    obtain ⟨m, hm⟩ := h.glob g hg
    exact ⟨m, hle _ _ hm⟩
  · intro j hj; exact upd_ne (by omega) _
  · intro j o' q hj hq
    rw [get_put_St] at hj
    by_cases hjn : j = s.nx
    · subst hjn
      rw [upd_same] at hq; cases hq
      exact .inl ⟨i, oi, pl, ho, hp, hb.symm, fun x => absurd x hf1⟩
    · rw [if_neg hjn] at hj
      rw [upd_ne hjn] at hq
      exact .inl ⟨j, o', q, hj, hq, rfl, id⟩

/-- The known cells of what is appended to. -/
structure Tail (cs : PT AV) (o old n : Nat) (ys : List AV) (cs' : PT AV) (kn' : Nat) : Prop where
  cell : ∀ k v, cs'.get k = some v → (k < old ∧ cs.get (o + k) = some v) ∨ (old ≤ k ∧ k < old + n ∧ ys[k - old]? = some v)
  top : ∀ k, kn' ≤ k → cs'.get k = none
theorem tail_whole {cs : PT AV} {kn n : Nat} {ys : List AV} (ht : ∀ k, kn ≤ k → cs.get k = none) (hl : ys.length = n) : Tail cs 0 kn n ys (cs.setL kn ys) (kn + n) := by
  refine ⟨fun k v hv => ?_, fun k hk => ?_⟩
  · rw [PT.get_setL] at hv
    by_cases hc : kn ≤ k ∧ k < kn + ys.length
    · rw [if_pos hc] at hv; exact .inr ⟨hc.1, by omega, hv⟩
    · rw [if_neg hc] at hv
      refine .inl ⟨?_, by rw [Nat.zero_add]; exact hv⟩
      rcases Nat.lt_or_ge k kn with h' | h'
      · exact h'
      · rw [ht k h'] at hv; cases hv
  · rw [PT.get_setL, if_neg (by omega)]; exact ht k (by omega)
theorem tail_copy {cs : PT AV} {o old n : Nat} {ls ys : List AV} (hls : cs.getL o old = some ls) (hl : ys.length = n) : Tail cs o old n ys (PT.setL .lf 0 (appL ls ys)) (old + n) := by
  obtain ⟨hlen, hget⟩ := cs.getL_spec _ _ _ hls
  refine ⟨fun k v hv => ?_, fun k hk => ?_⟩
  · rw [PT.get_setL, appL_eq] at hv
    by_cases hc : 0 ≤ k ∧ k < 0 + (ls ++ ys).length
    · rw [if_pos hc, Nat.sub_zero, List.getElem?_append] at hv
      by_cases hk : k < ls.length
      · rw [if_pos hk] at hv
        exact .inl ⟨by omega, by rw [hget k (by omega)]; exact hv⟩
      · rw [if_neg hk] at hv
        simp only [List.length_append] at hc
        exact .inr ⟨by omega, by omega, by rw [← hlen]; exact hv⟩
    · rw [if_neg hc] at hv; cases hv
  · rw [PT.get_setL, appL_eq, if_neg (by simp only [List.length_append]; omega)]; rfl

theorem app_fit (hτ : Plain τ) (hS : Sim τ ρ s w) {i o old kn md kn1 kn' : Nat} {cs cs1 cs' : PT AV} {tw : Option Nat} {ty : TypeId} {pl : Pl} {ys : List AV} {us : List Value}
    (hrow : s.h.get i = some (.row cs kn tw md ty)) (hp : ρ i = some pl) (hmd : md ≤ 1) (hr : RelL τ ρ ys us) (hone : allOne ys = true) (hn : 0 < ys.length) (hin : pl.o + o + old + ys.length ≤ pl.n)
    (h1 : (cs1 = cs ∧ kn1 = kn ∧ kn ≤ o + old) ∨ (cs1 = .lf ∧ kn1 = 0)) (ht : Tail cs o old ys.length ys cs' kn') :
    ∃ w', (storeCells ⟨pl.b, pl.o + o + old, none⟩ us).run P w = .ok () w' ∧
      Sim τ (upd ρ s.nx ⟨pl.b, pl.o + o, pl.n⟩) (((s.kill tw).setOb i (.row cs1 kn1 (some s.nx) md ty)).put (.row cs' kn' (some i) 1 ty)) w' ∧
      Lat ρ s w (upd ρ s.nx ⟨pl.b, pl.o + o, pl.n⟩) (((s.kill tw).setOb i (.row cs1 kn1 (some s.nx) md ty)).put (.row cs' kn' (some i) 1 ty)) w' := by
  obtain ⟨pl', hp', C, fz, r⟩ := hS.ob i _ hrow
  rw [hp] at hp'; cases hp'
  have hlen : us.length = ys.length := hr.length
  have hf : ¬ fixedOb (.row cs kn tw md ty) := fun e => by
    have : md = 3 := e
    omega
  have hf1 : ¬ fixedOb (.row cs1 kn1 (some s.nx) md ty) := fun e => by
    have : md = 3 := e
    omega
  have hone' : ∀ u ∈ us, (∀ cs, u ≠ .agg cs) ∧ ∀ cs, u ≠ .tuple cs := fun u hu => by
    obtain ⟨k, hk, rfl⟩ := List.mem_iff_getElem.1 hu
    have hkv : k < ys.length := by omega
    obtain ⟨y, hy, hrel⟩ := hr.get (i := k) (x := ys[k]) (by simp [hkv])
    rw [List.getElem?_eq_getElem hk] at hy; cases hy
    exact hrel.one hτ (allOne_mem hone _ (List.getElem_mem hkv))
  have hsz := r.size
  have hfree : ∀ k, pl.o + o + old + 0 ≤ k → k < pl.o + o + old + 0 + us.length → ¬ (fz.1 ≤ k ∧ k < fz.2) := fun k _ k2 => by
    rcases r.free hmd with e | e
    · rw [e]; simp
    · omega
  obtain ⟨w', hrun, hblk, hoth, hsize, htp, hos, hout⟩ := run_storeCells (P := P) us w pl.b (pl.o + o + old) 0 C ty fz r.blk (by omega) hfree hone'
  have hwr : ∀ k, (wrA C (pl.o + o + old + 0) us)[k]? = if pl.o + o + old + 0 ≤ k ∧ k < pl.o + o + old + 0 + us.length then us[k - (pl.o + o + old + 0)]? else C[k]? := wrA_get us C _ (by omega)
  have hob : ObRel τ ρ w' pl (.row cs1 kn1 (some s.nx) md ty) := by
    refine ⟨_, fz, hblk, by rw [wrA_size]; exact r.size, ?_, ?_, r.plain, r.free⟩
    · intro k v hv
      rcases h1 with ⟨rfl, rfl, hle⟩ | ⟨rfl, rfl⟩
      · have hk : k < kn1 := by
          rcases Nat.lt_or_ge k kn1 with h' | h'
          · exact h'
          · rw [r.top k h'] at hv; cases hv
        rw [hwr, if_neg (by omega)]
        exact r.cell k v hv
      · cases hv
    · intro k hk
      rcases h1 with ⟨rfl, rfl, _⟩ | ⟨rfl, rfl⟩
      · exact r.top k hk
      · rfl
  obtain ⟨a1, b1⟩ := sim_upd hS hrow hp hf hsize hoth htp hos hout hob (x := tw) (.inr rfl)
  have hnx : ((s.kill tw).setOb i (.row cs1 kn1 (some s.nx) md ty)).nx = s.nx := by rw [nx_setOb, nx_kill]
  have hget : ((s.kill tw).setOb i (.row cs1 kn1 (some s.nx) md ty)).h.get i = some (.row cs1 kn1 (some s.nx) md ty) := by rw [get_setOb, if_pos rfl]
  have hob2 : ObRel τ (upd ρ s.nx ⟨pl.b, pl.o + o, pl.n⟩) w' ⟨pl.b, pl.o + o, pl.n⟩ (.row cs' kn' (some i) 1 ty) := by
    have hle := le_upd hS ⟨pl.b, pl.o + o, pl.n⟩ (Nat.le_refl _)
    refine ⟨_, fz, hblk, by rw [wrA_size]; exact r.size, ?_, ht.top, (fun h => by cases h), fun _ => r.free hmd⟩
    intro k v hv
    show ∃ u, (wrA C (pl.o + o + old + 0) us)[pl.o + o + k]? = some u ∧ _
    rcases ht.cell k v hv with ⟨hk, hc⟩ | ⟨hk1, hk2, hc⟩
    · rw [hwr, if_neg (by omega), Nat.add_assoc]
      obtain ⟨u, hu, hru⟩ := r.cell (o + k) v hc
      exact ⟨u, hu, hru.mono hle⟩
    · obtain ⟨u, hu, hru⟩ := hr.get hc
      refine ⟨u, ?_, hru.mono hle⟩
      rw [hwr, if_pos (by omega), ← hu]
      congr 1; omega
  obtain ⟨a2, b2⟩ := sim_share (ob := .row cs' kn' (some i) 1 ty) (pl2 := ⟨pl.b, pl.o + o, pl.n⟩) a1 hget hp (by rw [hnx]; rfl) hf1 rfl (fun h => by cases h) rfl (by rw [hnx]; exact hob2)
  rw [hnx] at a2 b2
  exact ⟨w', hrun, a2, b1.trans b2⟩

theorem sim_newRow (hS : Sim τ ρ s w) {o old kn' : Nat} {cs cs' : PT AV} {C' : Array Value} {ys : List AV} {us : List Value} {md' : Nat} {tw' : Option Nat}
    (hr : RelL τ ρ ys us) (hmd : md' ≤ 1) (ht : Tail cs o old ys.length ys cs' kn') {el : TypeId}
    (hold : ∀ k v, k < old → cs.get (o + k) = some v → ∃ u, C'[k]? = some u ∧ Rel τ ρ v u) (hnew : ∀ k, k < us.length → C'[old + k]? = us[k]?) :
    Sim τ (upd ρ s.nx ⟨w.heap.size, 0, C'.size⟩) (s.put (.row cs' kn' tw' md' el)) (w.alloc (.cells C' el)) ∧
      Lat ρ s w (upd ρ s.nx ⟨w.heap.size, 0, C'.size⟩) (s.put (.row cs' kn' tw' md' el)) (w.alloc (.cells C' el)) := by
  have hle := le_upd hS ⟨w.heap.size, 0, C'.size⟩ (Nat.le_refl _)
  have hlen := hr.length
  refine sim_new hS _ _ _ ⟨C', (0, 0), alloc_new w _, rfl, ?_, ht.top, fun _ => ⟨rfl, rfl⟩, fun _ => .inl rfl⟩
  intro k v hv
  show ∃ u, C'[0 + k]? = some u ∧ _
  rw [Nat.zero_add]
  rcases ht.cell k v hv with ⟨hk, hc⟩ | ⟨hk1, hk2, hc⟩
  · obtain ⟨u, hu, hru⟩ := hold k v hk hc
    exact ⟨u, hu, hru.mono hle⟩
  · obtain ⟨u, hu, hru⟩ := hr.get hc
    refine ⟨u, ?_, hru.mono hle⟩
    have := hnew (k - old) (by omega)
    rw [show old + (k - old) = k by omega] at this
    rw [this, hu]
end Go.Hb

/-
  append: the join.
-/
namespace Go.Hb
open Go Go.Lib
variable {P : Program} {τ : Nat → Value} {ρ : Ro}
variable {s s' : St} {w : World} {v : AV} {t ty el : TypeId} {ts : List TypeId} {sz n l : Nat}

/-- The cells that stand before what is appended. -/
theorem old_cells {pl : Pl} {cs : PT AV} {kn md : Nat} {ty' : TypeId} {C : Array Value} {fz : Nat × Nat} (r : RowRel τ ρ w pl cs kn md ty' C fz) {a of cc : Nat}
    (ha : cc = 0 ∨ a = pl.o + of) (hl : l ≤ cc) (hb : cc = 0 ∨ a + cc * sz ≤ pl.n) :
    ∃ olds : List Value, olds.length = l * sz ∧ (Builtin.firstCells sz l (.slice (some ⟨pl.b, a, none⟩) l cc)).run P w = .ok ⟨olds⟩ w ∧ ∀ k, k < l * sz → olds[k]? = C[pl.o + of + k]? := by
  have hsz := r.size
  by_cases h0 : l = 0
  · subst h0
    refine ⟨[], by simp, ?_, fun k hk => by simp at hk⟩
    simp only [Builtin.firstCells, Nat.zero_mul]
    rfl
  · have ha' : a = pl.o + of := by omega
    have hb' : a + cc * sz ≤ pl.n := by omega
    have hm : l * sz ≤ cc * sz := Nat.mul_le_mul_right _ hl
    have hlen : ((C.toList.drop (pl.o + of)).take (l * sz)).length = l * sz := by simp; omega
    have hget : ∀ k, k < l * sz → C[pl.o + of + k]? = ((C.toList.drop (pl.o + of)).take (l * sz))[k]? := fun k hk => by
      rw [List.getElem?_take, if_pos hk, List.getElem?_drop, Array.getElem?_toList]
    refine ⟨_, hlen, ?_, fun k hk => (hget k hk).symm⟩
    simp only [Builtin.firstCells]
    subst ha'
    exact run_loadCells' r.blk _ hlen hget
/-- The two ways of append, with what comes known. -/
def FitOk (P : Program) (τ : Nat → Value) (ρ : Ro) (w : World) (t ty : TypeId) (ts : List TypeId) (sz n l : Nat) (uy : Value) (ys : List AV) : Prop :=
  ∃ us : List Value, RelL τ ρ ys us ∧ ∀ (a : Addr) (c : Nat) (w' : World), l + n ≤ c → (storeCells (a.add (l * sz)) us).run P w = .ok () w' →
    (Builtin.append_ ⟨t :: ts⟩ ty ⟨[.slice (some a) l c, uy]⟩).run P w = .ok (.slice (some a) (l + n) c) w'
def GrowOk (P : Program) (τ : Nat → Value) (ρ : Ro) (w : World) (t ty el : TypeId) (ts : List TypeId) (sz n l : Nat) (uy : Value) (ys : List AV) : Prop :=
  ∃ us : List Value, RelL τ ρ ys us ∧ ∀ (base : Option Addr) (c : Nat) (olds : List Value), c < l + n → olds.length = l * sz → (Builtin.firstCells sz l (.slice base l c)).run P w.drew = .ok ⟨olds⟩ w.drew →
    ∃ g C', (Builtin.append_ ⟨t :: ts⟩ ty ⟨[.slice base l c, uy]⟩).run P w = .ok (.slice (some ⟨w.heap.size, 0, none⟩) (l + n) g) (w.drew.alloc (.cells C' el)) ∧ l + n ≤ g ∧ C'.size = g * sz ∧
      (∀ k, k < l * sz → C'[k]? = olds[k]?) ∧ ∀ k, k < us.length → C'[l * sz + k]? = us[k]?
theorem grow_cells {olds us : List Value} {Z : Array Value} (ho : olds.length = l * sz) :
    (∀ k, k < l * sz → ((⟨olds⟩ : Array Value) ++ ⟨us⟩ ++ Z)[k]? = olds[k]?) ∧ ∀ k, k < us.length → ((⟨olds⟩ : Array Value) ++ ⟨us⟩ ++ Z)[l * sz + k]? = us[k]? := by
  constructor
  · intro k hk
    rw [Array.getElem?_append_left (by simp; omega), Array.getElem?_append_left (by simp; omega)]
    simp
  · intro k hk
    rw [Array.getElem?_append_left (by simp; omega), Array.getElem?_append_right (by simp; omega)]
    simp [ho]
theorem zeroCells_size (z : Array Value) (m : Nat) : (Builtin.zeroCells z m).size = m * z.size := by simp [Builtin.zeroCells]
section
variable (hτ : Plain τ) (hS : Sim τ ρ s w) (hsz0 : sz ≠ 0) (hn0 : n ≠ 0) {ys : List AV} (hone : allOne ys = true) (hlen : ys.length = n * sz) {uy : Value}
  (hF : FitOk P τ ρ w t ty ts sz n l uy ys) (hG : GrowOk P τ ρ w t ty el ts sz n l uy ys)
include hτ hS hsz0 hn0 hone hlen hF hG
theorem appA_run {x : AV} {ux : Value} (hx : Rel τ ρ x ux) (hl : lenA x = some l) (h : appA el sz n x ys s = some (v, s')) :
    Gives P τ ρ s w (Builtin.append_ ⟨t :: ts⟩ ty ⟨[ux, uy]⟩) v s' := by
  have hSd : Sim τ ρ s w.drew := hS.world rfl
  have hLd : Lat ρ s w ρ s w.drew := .world rfl rfl rfl rfl
  unfold appA at h
  split at h
  · cases h; cases hx; cases hl
    obtain ⟨us, hr, hG⟩ := hG
    obtain ⟨g, C', hrun, hg, hC, _, hnew⟩ := hG none 0 [] (by omega) (by simp) rfl
    have hT := tail_whole (cs := .lf) (kn := 0) (ys := ys) (fun _ _ => rfl) rfl
    rw [show 0 + ys.length = len ys by simp] at hT
    obtain ⟨a1, b1⟩ := sim_newRow (md' := 0) (tw' := none) (C' := C') (el := el) hSd hr (by omega) hT (fun k v hk => by omega) (by simpa using hnew)
    refine ⟨_, _, _, hrun, ?_, a1, hLd.trans b1⟩
    rw [Nat.zero_add] at hg ⊢
    exact .sl (upd_same _ _ _) (.inr rfl) hg (fun k hk => by cases hk) (.inr (by show 0 + g * sz ≤ C'.size; omega))
  · rename_i i of l' cap z
    cases hx with | sl hpl ha hle hc hb =>
    rename_i cc a pl
    have hll : l' = l := by cases hl; rfl
    subst hll
    rw [natBeq_eq] at h
    split at h <;> first | (cases h; done) | skip
    rename_i hz
    rw [decide_eq_true_eq] at hz
    subst hz
    replace h := kR_eq h (by simp); obtain ⟨cs, kn, tw, md, ty', hrow, h⟩ := h
    obtain ⟨pl', hp', C, fz, r⟩ := hS.ob i _ hrow
    rw [hpl] at hp'; cases hp'
    have hpos : 0 < ys.length := by rw [hlen]; exact Nat.pos_of_ne_zero (Nat.mul_ne_zero hn0 hsz0)
    have rd : RowRel τ ρ w.drew pl cs kn md ty' C fz := ⟨r.blk, r.size, r.cell, r.top, r.plain, r.free⟩
    -- a new row, the old one as it is but for its twin
    have hnewrow : ∀ (s1 : St) (md' : Nat) (tw' : Option Nat) (cs' : PT AV) (kn' : Nat), Sim τ ρ s1 w.drew → Lat ρ s w ρ s1 w.drew → s1.nx = s.nx → md' ≤ 1 → cc < l' + n → Tail cs of (l' * z) ys.length ys cs' kn' →
        Gives P τ ρ s w (Builtin.append_ ⟨t :: ts⟩ ty ⟨[.slice (some ⟨pl.b, a, none⟩) l' cc, uy]⟩) (.sl s.nx 0 (l' + n) none z) (s1.put (.row cs' kn' tw' md' el)) := by
      intro s1 md' tw' cs' kn' hS1 hL1 hnx hmd' hgr hT
      obtain ⟨us, hr, hG⟩ := hG
      obtain ⟨olds, holen, horun, hoget⟩ := old_cells (P := P) rd ha hle hb
      obtain ⟨g, C', hrun, hg, hC, hold, hnew⟩ := hG _ cc olds hgr holen horun
      obtain ⟨a1, b1⟩ := sim_newRow (md' := md') (tw' := tw') (C' := C') (el := el) hS1 hr hmd' hT (fun k v hk hv => by
        obtain ⟨u, hu, hru⟩ := r.cell _ _ hv
        exact ⟨u, by rw [hold k hk, hoget k hk, Nat.add_assoc]; exact hu, hru⟩) hnew
      rw [hnx] at a1 b1
      refine ⟨_, _, _, hrun, ?_, a1, hL1.trans b1⟩
      exact .sl (upd_same _ _ _) (.inr rfl) hg (fun k hk => by cases hk) (.inr (by show 0 + g * z ≤ C'.size; omega))
    -- in the old block or in a new one
    have htwin : ∀ (cs1 : PT AV) (kn1 : Nat) (cs' : PT AV) (kn' : Nat), md ≤ 1 → ty' = el → (cs1 = cs ∧ kn1 = kn ∧ kn ≤ of + l' * z) ∨ (cs1 = .lf ∧ kn1 = 0) → Tail cs of (l' * z) ys.length ys cs' kn' →
        Gives P τ ρ s w (Builtin.append_ ⟨t :: ts⟩ ty ⟨[.slice (some ⟨pl.b, a, none⟩) l' cc, uy]⟩) (appTwin i z (l' + n) cs1 kn1 tw md ty' cs' kn' s).1 (appTwin i z (l' + n) cs1 kn1 tw md ty' cs' kn' s).2 := by
      intro cs1 kn1 cs' kn' hmd hty h1 hT
      subst hty
      by_cases hfit : l' + n ≤ cc
      · obtain ⟨us, hr, hF⟩ := hF
        have ha' : a = pl.o + of := by omega
        have hb' : a + cc * z ≤ pl.n := by omega
        subst ha'
        have hm : (l' + n) * z ≤ cc * z := Nat.mul_le_mul_right _ hfit
        have hm2 : (l' + n) * z = l' * z + n * z := Nat.add_mul _ _ _
        obtain ⟨w', hst, a1, b1⟩ := app_fit (P := P) hτ hS hrow hpl hmd hr hone hpos (by omega) h1 hT
        refine ⟨_, w', _, hF _ cc w' hfit (by rw [add_none]; exact hst), ?_, a1, b1⟩
        exact .sl (pl := ⟨pl.b, pl.o + of, pl.n⟩) (upd_same _ _ _) (.inr rfl) hfit (fun k hk => by cases hk) (.inr (by show pl.o + of + cc * z ≤ pl.n; omega))
      · have hf : ¬ fixedOb (.row cs kn tw md ty') := fun e => by
          have : md = 3 := e
          omega
        have hob : ObRel τ ρ w.drew pl (.row cs1 kn1 (some s.nx) md ty') := by
          refine ⟨C, fz, r.blk, r.size, ?_, ?_, r.plain, r.free⟩
          · intro k v hv
            rcases h1 with ⟨rfl, rfl, _⟩ | ⟨rfl, rfl⟩
            · exact r.cell k v hv
            · cases hv
          · intro k hk
            rcases h1 with ⟨rfl, rfl, _⟩ | ⟨rfl, rfl⟩
            · exact r.top k hk
            · rfl
        obtain ⟨a1, b1⟩ := sim_upd (w' := w.drew) hS hrow hpl hf rfl (fun _ _ => rfl) rfl rfl rfl hob (x := tw) (.inr rfl)
        exact hnewrow _ 1 (some i) cs' kn' a1 b1 (by rw [nx_setOb, nx_kill]) (by omega) (by omega) hT
    split at h
    · rename_i c'
      have hcc := hc _ rfl
      subst hcc
      rw [natBle_eq] at h
      split at h
      · rename_i hfit
        rw [decide_eq_true_eq] at hfit
        replace h := oB_eq h; obtain ⟨s1, hs1, h⟩ := h
        cases h
        obtain ⟨us, hr, hF⟩ := hF
        have ha' : a = pl.o + of := by have : l' + n ≤ cc := hfit; omega
        subst ha'
        obtain ⟨w', hrun, a1, b1⟩ := writeA_run (P := P) hτ hS hpl hr hs1
        refine ⟨_, w', ρ, hF _ _ w' hfit (by rw [add_none, Nat.add_assoc]; exact hrun), ?_, a1, b1⟩
        exact .sl hpl (.inr rfl) hfit hc hb
      · rename_i hfit
        rw [decide_eq_false_iff_not] at hfit
        replace h := oB_eq h; obtain ⟨ls, hls, h⟩ := h
        cases h
        have hfit' : ¬ (l' + n ≤ cc) := hfit
        have hT : Tail cs of (l' * z) ys.length ys (PT.setL .lf 0 (appL ls ys)) (l' * z + ys.length) := tail_copy hls rfl
        have hlen2 : ls.length = l' * z := (cs.getL_spec _ _ _ hls).1
        have := hnewrow s 0 none _ _ hSd hLd rfl (by omega) (by omega) hT
        have hk : l' * z + ys.length = len (appL ls ys) := by simp [hlen2]
        rw [hk] at this
        exact this
    · rw [natBle_eq, natBeq_eq] at h
      split at h <;> first | (cases h; done) | skip
      rename_i hmd hty
      rw [decide_eq_true_eq] at hmd hty
      rw [natBle_eq, natBeq_eq, natBeq_eq] at h
      have e1 : Nat.add (Nat.mul l' z) (Nat.mul n z) = l' * z + ys.length := by rw [hlen]; rfl
      split at h
      · rename_i hk1 hk2 hk3
        rw [decide_eq_true_eq] at hk1 hk2 hk3
        have hk3' : kn = l' * z := hk3
        have hT := tail_whole (ys := ys) r.top rfl
        subst hk2
        have e2 : Nat.add kn (Nat.mul n z) = kn + ys.length := by rw [hlen]; rfl
        rw [e2] at h
        have := htwin cs kn (cs.setL kn ys) (kn + ys.length) hmd hty (.inl ⟨rfl, rfl, hk1⟩) (by rw [← hk3']; exact hT)
        cases h
        exact this
      · rename_i hk1 _
        rw [decide_eq_true_eq] at hk1
        replace h := oB_eq h; obtain ⟨ls, hls, h⟩ := h
        rw [e1] at h
        cases h
        exact htwin cs kn _ _ hmd hty (.inl ⟨rfl, rfl, hk1⟩) (tail_copy hls rfl)
      · replace h := oB_eq h; obtain ⟨ls, hls, h⟩ := h
        rw [e1] at h
        cases h
        exact htwin .lf 0 _ _ hmd hty (.inr ⟨rfl, rfl⟩) (tail_copy hls rfl)
  · cases h
end
theorem append_run {x y : AV} {ux uy : Value} (hτ : Plain τ) (hS : Sim τ ρ s w) (hx : Rel τ ρ x ux) (hy : Rel τ ρ y uy) (h : appendA P (t :: ts) [x, y] s = some (v, s')) :
    Gives P τ ρ s w (Builtin.append_ ⟨t :: ts⟩ ty ⟨[ux, uy]⟩) v s' := by
  replace h := oB_eq h; obtain ⟨p, hp, h⟩ := h
  obtain ⟨el, sz⟩ := p
  replace h := oB_eq h; obtain ⟨b_, hb_, h⟩ := h
  replace h := oB_eq h; obtain ⟨z, hz, h⟩ := h
  replace h := oB_eq h; obtain ⟨b, hb, h⟩ := h
  replace h := oB_eq h; obtain ⟨l, hl, h⟩ := h
  replace h := oB_eq h; obtain ⟨n, hn, h⟩ := h
  obtain ⟨hu, hsz⟩ := elemT_eq hp
  obtain ⟨i, hi, hib⟩ := oB_eq hb_
  have hib : i.bytes = b_ := Option.some.inj hib
  obtain ⟨y0, hy0, hry⟩ := zeroT_all hz
  have T : AppT P t el sz i y0 := ⟨hu, fun w => run_sizeT hsz w, fun w => run_typeInfoT (infoT_eq hi) w, hy0⟩
  rw [natBle_eq, natBeq_eq, len_eq] at h
  split at h <;> first | (cases h; done) | skip
  rename_i hsl hbd hzl
  rw [decide_eq_true_eq] at hbd hzl
  have hbd : (l + n) * (i.bytes + 1) ≤ 1000000 := by rw [hib]; exact hbd
  have hzl : z.cells.length = sz := hzl
  have hcs := (hry τ ρ).cells hτ
  have hy0s : y0.cells.size = sz := by have := hcs.length; simp at this; omega
  have hlr : b = false → ∀ w : World, (Builtin.lenOf uy).run P w = .ok n w := fun hb0 w => by
    subst hb0; exact lenA_run hy hn
  rw [natBeq_eq, natBeq_eq] at h
  by_cases hn0 : n = 0
  · subst hn0
    simp only [decide_true] at h
    obtain ⟨rfl, rfl⟩ : x = v ∧ s = s' := by cases h; exact ⟨rfl, rfl⟩
    have hx' := hx
    cases x <;> first | (cases hsl; done) | skip
    · cases hx; cases hl
      cases b with
      | true =>
        obtain ⟨k, rfl⟩ := natA_eq hn
        cases hy
        exact .pure hS (append_nil1 T hbd hb) .nsl
      | false => exact .pure hS (append_nil0 T hbd hb (hlr rfl w) (firstZero_run hy hn)) .nsl
    · cases hx with | sl hpl ha hle hc hb' =>
      rename_i cc aa pl
      have hll := Option.some.inj hl
      subst hll
      cases b with
      | true =>
        obtain ⟨k, rfl⟩ := natA_eq hn
        cases hy
        have := append_fit1 (ty := ty) (us := []) (k := k) T hbd hb (fun h => by simp at h) (fun _ => rfl) ⟨pl.b, aa, none⟩ (by omega) (w' := w) rfl
        exact .pure hS this hx'
      | false =>
        have := append_fit0 (ty := ty) (us := []) T hbd hb (hlr rfl w) (firstZero_run hy hn) ⟨pl.b, aa, none⟩ (by omega) (w' := w) rfl
        exact .pure hS this hx'
  · simp only [hn0, decide_false] at h
    split at h <;> first | (cases h; done) | skip
    · cases ‹false = true›
    rename_i hsz0
    rw [decide_eq_false_iff_not] at hsz0
    have hsz0 : sz ≠ 0 := hsz0
    replace h := oB_eq h; obtain ⟨ys, hys, h⟩ := h
    split at h <;> first | (cases h; done) | skip
    rename_i hone
    have hge : ∀ c, l + n ≤ grownCap w (l + n) c el := fun c => grownCap_ge w _ _ _
    have hsize : ∀ (olds us : List Value) (g : Nat), olds.length = l * sz → us.length = n * sz → l + n ≤ g → ((⟨olds⟩ : Array Value) ++ ⟨us⟩ ++ Builtin.zeroCells y0.cells (g - (l + n))).size = g * sz := fun olds us g h1 h2 h3 => by
      simp only [Array.size_append, zeroCells_size, hy0s, List.size_toArray, h1, h2]
      have : (g - (l + n)) * sz = g * sz - (l + n) * sz := Nat.sub_mul _ _ _
      have h4 : (l + n) * sz = l * sz + n * sz := Nat.add_mul _ _ _
      have h5 : (l + n) * sz ≤ g * sz := Nat.mul_le_mul_right _ h3
      omega
    cases b with
    | true =>
      obtain ⟨k, rfl⟩ := natA_eq hn
      cases hy
      have hys : repL z.cells n = ys := Option.some.inj hys
      have hzr := zeros_rel (n := n) hcs hzl hsz0
      rw [hys] at hzr
      have hz' : Builtin.zeroCells y0.cells n = (Array.range (n * sz)).map (y0.cells[· % y0.cells.size]!) := by
        simp only [Builtin.zeroCells, hy0s]
      rw [← hz'] at hzr
      have hlen : ys.length = n * sz := by rw [← hys, repL_length, hzl]
      have hul : (Builtin.zeroCells y0.cells n).toList.length = n * sz := hzr.length.trans hlen
      have hnz : n * sz ≠ 0 := Nat.mul_ne_zero hn0 hsz0
      refine appA_run hτ hS hsz0 hn0 hone hlen ⟨_, hzr, fun a c w' hfit hst => ?_⟩ ⟨_, hzr, fun base c olds hgr hol ho => ?_⟩ hx hl h
      · exact append_fit1 T hbd hb (fun _ => rfl) (fun e => absurd e hnz) a hfit hst
      · exact ⟨_, _, append_grow1 T hbd hb rfl hnz base hgr ho, hge c, hsize _ _ _ hol hul (hge c), grow_cells hol⟩
    | false =>
      obtain ⟨us1, hus1, hr1, hlen⟩ := firstA_run (P := P) hS hy hn (Nat.le_refl n) hys
      obtain ⟨us2, hus2, hr2, _⟩ := firstA_run (P := P) (w := w.drew) (hS.world rfl) hy hn (Nat.le_refl n) hys
      have hul := hr2.length
      refine appA_run hτ hS hsz0 hn0 hone hlen ⟨us1, hr1, fun a c w' hfit hst => ?_⟩ ⟨us2, hr2, fun base c olds hgr hol ho => ?_⟩ hx hl h
      · exact append_fit0 T hbd hb (hlr rfl w) hus1 a hfit hst
      · exact ⟨_, _, append_grow0 T hbd hb (hlr rfl w) hus2 base hgr ho, hge c, hsize _ _ _ hol (by omega) (hge c), grow_cells hol⟩
end Go.Hb

/-
  Single operations: the join.
-/
namespace Go.Hb
open Go Go.Lib
variable {P : Program} {τ : Nat → Value} {ρ : Ro}
variable {e : PT AV} {nt : Nat} {s s' : St} {w : World} {A : Act} {o : Oper} {v : AV}

theorem builtin_call {cl : Call} {b : Builtin} {m : Sem Value} {u : Value} {w' : World} (ho : o.op = .call cl) (hb : cl.callee = .builtin b)
    (hm : ∀ q, builtin b cl.argTypes o.type q (cl.args.map A.eval) = (do pure (.value (← m)))) (h : m.run P w = .ok u w') :
    (execOp A.eval o).run P w = .ok (.value u) w' := by
  simp only [execOp, ho, resolve, hb, Sem.run_bind, Sem.run_pure, Result.andThen_ok, invoke, hm, h]
theorem xBuiltin_ok (c : Ctx τ ρ e nt s w A) {cl : Call} {b : Builtin} (ho : o.op = .call cl) (hb : cl.callee = .builtin b) {args : List AV} (ha : opds e cl.args.toList = some args)
    (h : xBuiltin P b cl.argTypes.toList args s = .val v s') : Done P τ ρ s w A o v s' := by
  have hr := c.opds ha
  have hargs : cl.args.map A.eval = ⟨cl.args.toList.map A.eval⟩ := by apply Array.ext'; simp
  generalize hus : cl.args.toList.map A.eval = us at hr hargs
  have hats : cl.argTypes = ⟨cl.argTypes.toList⟩ := rfl
  generalize cl.argTypes.toList = ats at h hats
  have fin : ∀ {m : Sem Value}, (∀ q, builtin b ⟨ats⟩ o.type q ⟨us⟩ = (do pure (.value (← m)))) → Gives P τ ρ s w m v s' → Done P τ ρ s w A o v s' := by
    intro m hm ⟨u, w', ρ', hrun, hrel, hS, hL⟩
    refine ⟨u, w', ρ', .inl (builtin_call ho hb ?_ hrun), hrel, hS, hL⟩
    rw [hats, hargs]; exact hm
  unfold xBuiltin at h
  split at h
  · cases hr with | cons hx t =>
    cases t
    split at h <;> first | (cases h; done) | skip
    have hq := valO_eq h
    clear h
    obtain ⟨h, rfl⟩ := hq
    obtain ⟨y, hy, hry⟩ := len_run (P := P) c.sim hx h
    exact fin (fun _ => rfl) (.pure c.sim hy hry)
  · cases hr with | cons hx t =>
    cases t
    split at h <;> first | (cases h; done) | skip
    have hq := valO_eq h
    clear h
    obtain ⟨h, rfl⟩ := hq
    obtain ⟨y, hy, hry⟩ := cap_run (P := P) hx h
    exact fin (fun _ => rfl) (.pure c.sim hy hry)
  · have h := valP_eq h
    have h' := h
    unfold appendA at h'
    split at h' <;> first | (cases h'; done) | skip
    cases hr with | cons hx t =>
    cases t with | cons hy t =>
    cases t
    exact fin (fun _ => rfl) (append_run c.pl c.sim hx hy h)
  · cases hr with | cons hx t =>
    cases t with | cons hy t =>
    cases t
    split at h <;> first | (cases h; done) | skip
    exact fin (fun _ => rfl) (copy_run c.pl c.sim hx hy (valP_eq h))
  · cases hr with | cons hx t =>
    cases t with | cons hy t =>
    cases t
    split at h <;> first | (cases h; done) | skip
    have hq := valS_eq h
    clear h
    obtain ⟨h, rfl⟩ := hq
    obtain ⟨w', hrun, r1, r2⟩ := delete_run (P := P) c.sim hx hy h
    exact fin (fun _ => rfl) ⟨_, w', ρ, hrun, undef_rel, r1, r2⟩
  · cases hr with | cons hx t =>
    cases t
    split at h <;> first | (cases h; done) | skip
    have hq := valS_eq h
    clear h
    obtain ⟨h, rfl⟩ := hq
    obtain ⟨w', hrun, r1, r2⟩ := clear_run (P := P) c.pl c.sim hx h
    exact fin (fun _ => rfl) ⟨_, w', ρ, hrun, undef_rel, r1, r2⟩
  · cases hr with | cons hx t =>
    have hq := valO_eq h
    clear h
    obtain ⟨h, rfl⟩ := hq
    obtain ⟨z, hz, hrz⟩ := foldMM_run (P := P) (w := w) _ _ _ _ _ t hx h
    exact fin (m := Builtin.min_ ⟨ats⟩ o.type ⟨_ :: _⟩) (fun _ => rfl) (.pure c.sim hz hrz)
  · cases hr with | cons hx t =>
    have hq := valO_eq h
    clear h
    obtain ⟨h, rfl⟩ := hq
    obtain ⟨z, hz, hrz⟩ := foldMM_run (P := P) (w := w) _ _ _ _ _ t hx h
    exact fin (m := Builtin.max_ ⟨ats⟩ o.type ⟨_ :: _⟩) (fun _ => rfl) (.pure c.sim hz hrz)
  · cases hr with | cons hx t =>
    cases t
    have hq := valO_eq h
    clear h
    obtain ⟨h, rfl⟩ := hq
    obtain ⟨y, hy, hry⟩ := sliceData_run (P := P) hx h
    exact fin (fun _ => rfl) (.pure c.sim hy hry)
  · cases hr with | cons hx t =>
    cases t with | cons hy t =>
    cases t
    split at h <;> first | (cases h; done) | skip
    exact fin (fun _ => rfl) (unsafeString_run c.sim hx hy (valP_eq h))
  · cases h

theorem xCall_eq {cl : Call} {r : XR} (hr : r ≠ .bad) (h : xCall P cl e s = r) : ∃ args, opds e cl.args.toList = some args ∧
    ((∃ b, cl.callee = .builtin b ∧ xBuiltin P b cl.argTypes.toList args s = r) ∨
     (∃ f g fi ca, cl.callee = .value f ∧ opd e f = some (.fn g fi ca) ∧ r = .call g (appL fi (appL args ca)) s) ∨
     (∃ f i, cl.callee = .value f ∧ opd e f = some (.yld i) ∧ r = .round i args s)) := by
  unfold xCall at h
  cases ho : opds e cl.args.toList with
  | none => rw [ho] at h; exact absurd h.symm hr
  | some args =>
    rw [ho] at h
    refine ⟨args, rfl, ?_⟩
    cases hc : cl.callee with
    | builtin b => rw [hc] at h; exact .inl ⟨b, rfl, h⟩
    | invoke x n => rw [hc] at h; exact absurd h.symm hr
    | value f =>
      rw [hc] at h
      obtain ⟨u, hu, h⟩ := wV_eq h hr
      cases u <;> first | exact absurd h.symm hr | skip
      · exact .inr (.inl ⟨f, _, _, _, rfl, hu, h.symm⟩)
      · exact .inr (.inr ⟨f, _, rfl, hu, h.symm⟩)
theorem xBuiltin_val {b : Builtin} {ats : List TypeId} {args : List AV} : (∃ v s', xBuiltin P b ats args s = .val v s') ∨ xBuiltin P b ats args s = .bad := by
  have h1 : ∀ x : Option AV, (∃ v s', valO s x = .val v s') ∨ valO s x = .bad := fun x => by
    cases x
    · exact .inr rfl
    · exact .inl ⟨_, _, rfl⟩
  have h2 : ∀ x : Option St, (∃ v s', valS x = .val v s') ∨ valS x = .bad := fun x => by
    cases x
    · exact .inr rfl
    · exact .inl ⟨_, _, rfl⟩
  have h3 : ∀ x : Option (AV × St), (∃ v s', valP x = .val v s') ∨ valP x = .bad := fun x => by
    cases x
    · exact .inr rfl
    · exact .inl ⟨_, _, rfl⟩
  unfold xBuiltin
  split <;> first | exact h1 _ | exact h2 _ | exact h3 _ | exact .inr rfl | (split <;> first | exact h1 _ | exact h2 _ | exact h3 _ | exact .inr rfl)
theorem xCall_val (c : Ctx τ ρ e nt s w A) {cl : Call} (ho : o.op = .call cl) (h : xCall P cl e s = .val v s') : Done P τ ρ s w A o v s' := by
  obtain ⟨args, ha, ⟨b, hb, h⟩ | ⟨_, _, _, _, _, _, h⟩ | ⟨_, _, _, _, h⟩⟩ := xCall_eq (by simp) h
  · exact xBuiltin_ok c ho hb ha h
  · cases h
  · cases h
theorem xCall_call (c : Ctx τ ρ e nt s w A) {cl : Call} {f : FuncId} {as : List AV} (ho : o.op = .call cl) (h : xCall P cl e s = .call f as s') :
    s' = s ∧ ∃ us : List Value, RelL τ ρ as us ∧ (execOp A.eval o).run P w = (callFunc f ⟨us⟩).run P w := by
  obtain ⟨args, ha, ⟨b, hb, h⟩ | ⟨g, k, fi, ca, hg, hu, h⟩ | ⟨_, _, _, _, h⟩⟩ := xCall_eq (by simp) h
  · rcases xBuiltin_val (P := P) (b := b) (ats := cl.argTypes.toList) (args := args) (s := s) with ⟨v, s1, e1⟩ | e1 <;> rw [e1] at h <;> cases h
  · cases h
    have hr := c.opds ha
    have hf := c.opd hu
    generalize hx : A.eval g = x at hf
    cases hf with | fn h1 h2 =>
    rename_i vs ws
    refine ⟨rfl, vs ++ (cl.args.toList.map A.eval ++ ws), ?_, ?_⟩
    · rw [appL_eq, appL_eq]; exact h1.append (hr.append h2)
    · have hargs : cl.args.map A.eval = ⟨cl.args.toList.map A.eval⟩ := by apply Array.ext'; simp
      simp only [execOp, ho, resolve, hg, hx, Deferred.ofValue, Sem.run_bind, Sem.run_pure, Result.andThen_ok, invoke, hargs]
      congr 2
      apply Array.ext'
      simp
  · cases h
theorem xCall_round (c : Ctx τ ρ e nt s w A) {cl : Call} {i : Nat} {as : List AV} (ho : o.op = .call cl) (h : xCall P cl e s = .round i as s') :
    s' = s ∧ ∃ (us : List Value) (pl : Pl), RelL τ ρ as us ∧ ρ i = some pl ∧ (execOp A.eval o).run P w = (Instr.yield pl.b ⟨us⟩).run P w := by
  obtain ⟨args, ha, ⟨b, hb, h⟩ | ⟨g, k, fi, ca, hg, hu, h⟩ | ⟨g, k, hg, hu, h⟩⟩ := xCall_eq (by simp) h
  · rcases xBuiltin_val (P := P) (b := b) (ats := cl.argTypes.toList) (args := args) (s := s) with ⟨v, s1, e1⟩ | e1 <;> rw [e1] at h <;> cases h
  · cases h
  · cases h
    have hr := c.opds ha
    have hf := c.opd hu
    generalize hx : A.eval g = x at hf
    cases hf with | yld hpl =>
    rename_i pl
    refine ⟨rfl, cl.args.toList.map A.eval, pl, hr, hpl, ?_⟩
    have hargs : cl.args.map A.eval = ⟨cl.args.toList.map A.eval⟩ := by apply Array.ext'; simp
    simp only [execOp, ho, resolve, hg, hx, Deferred.ofValue, Sem.run_bind, Sem.run_pure, Result.andThen_ok, invoke, hargs]
    congr 2
    try (apply Array.ext'; simp)
theorem xDefer_dfr (c : Ctx τ ρ e nt s w A) {cl : Call} {f : FuncId} {as : List AV} {r : XR} (ho : o.op = .defer cl) (hr : r ≠ .bad) (h : xDefer cl e s = r) :
    ∃ (f : FuncId) (as : List AV) (xs ws : List Value), r = .dfr f as s ∧ RelL τ ρ as (xs ++ ws) ∧ (execOp A.eval o).run P w = .ok (.defer { target := .fn (.func f) ⟨ws⟩, args := ⟨xs⟩ }) w := by
  unfold xDefer at h
  cases ha : opds e cl.args.toList with
  | none => rw [ha] at h; exact absurd h.symm hr
  | some args =>
    rw [ha] at h
    cases hc : cl.callee with
    | builtin b => simp only [hc] at h; exact absurd h.symm hr
    | invoke x n => simp only [hc] at h; exact absurd h.symm hr
    | value g =>
      simp only [hc] at h
      obtain ⟨u, hu, h⟩ := wV_eq h hr
      cases u <;> first | exact absurd h.symm hr | skip
      have hr' := c.opds ha
      have hf := c.opd hu
      generalize hx : A.eval g = x at hf
      cases hf with | fn h1 h2 =>
      rename_i vs ws
      refine ⟨_, _, vs ++ cl.args.toList.map A.eval, ws, h.symm, ?_, ?_⟩
      · rw [appL_eq, appL_eq, List.append_assoc]; exact h1.append (hr'.append h2)
      · have hargs : cl.args.map A.eval = ⟨cl.args.toList.map A.eval⟩ := by apply Array.ext'; simp
        simp only [execOp, ho, resolve, hc, hx, Deferred.ofValue, Sem.run_bind, Sem.run_pure, Result.andThen_ok, hargs]
        congr 3
        try (apply Array.ext'; simp)
theorem xDefer_noval (cl : Call) : ¬ xDefer cl e s = .val v s' := by
  intro h
  unfold xDefer at h
  cases ha : opds e cl.args.toList with
  | none => rw [ha] at h; cases h
  | some args =>
    rw [ha] at h
    cases hc : cl.callee with
    | builtin b => simp only [hc] at h; cases h
    | invoke x n => simp only [hc] at h; cases h
    | value g =>
      simp only [hc] at h
      obtain ⟨u, hu, h⟩ := wV_eq h (by simp)
      cases u <;> cases h
/-- What an operation gives at once. -/
theorem xop_val (c : Ctx τ ρ e nt s w A) (h : xop P o.op e s = .val v s') : Done P τ ρ s w A o v s' := by
  cases ho : o.op <;> rw [ho] at h <;> first
    | (cases h; done)
    | exact xMove_ok c (.inl ho) h
    | exact xMove_ok c (.inr ho) h
    | exact xPick_ok c ho h
    | exact xAlloc_ok c (by rw [ho]; exact h)
    | exact xBuild_ok c ho h
    | exact xUpdate_ok c (.inl ho) h
    | exact xUpdate_ok c (.inr ho) h
    | exact xLoad_ok c ho h
    | exact xStore_ok c ho h
    | exact xNilCheck_ok c ho h
    | exact xBin_ok c ho h
    | exact xUn_ok c ho h
    | exact xConv_ok c ho h
    | exact xIface_ok c ho h
    | exact xFunc_ok c ho h
    | exact xSlice_ok c ho h
    | exact xFieldAddr_ok c ho h
    | exact xField_ok c ho h
    | exact xIndexAddr_ok c ho h
    | exact xIndex_ok c ho h
    | exact xLookup_ok c ho h
    | exact xTypeAssert_ok c ho h
    | exact xExtract_ok c ho h
    | exact xCall_val c ho h
    | exact absurd h (xDefer_noval _)
end Go.Hb

/-
  Which operations call.
-/
namespace Go.Hb
open Go Go.Lib
variable {P : Program} {e : PT AV} {s s' : St}

def NC : XR → Prop
  | .bad => True
  | .val _ _ => True
  | _ => False
theorem nc_valO (x : Option AV) : NC (valO s x) := by cases x <;> trivial
theorem nc_valS (x : Option St) : NC (valS x) := by cases x <;> trivial
theorem nc_valP (x : Option (AV × St)) : NC (valP x) := by cases x <;> trivial
theorem nc_wV {x : Operand} {k : AV → XR} (h : ∀ v, NC (k v)) : NC (wV e x k) := by
  unfold wV
  cases opd e x
  · trivial
  · exact h _
theorem nc_kP {f : Nat → Nat → XR} (h : ∀ i o, NC (f i o)) (v : AV) : NC (v.kP .bad f) := by cases v <;> first | trivial | exact h _ _
theorem nc_kB {f : Bool → XR} (h : ∀ b, NC (f b)) (v : AV) : NC (v.kB .bad f) := by cases v <;> first | trivial | exact h _
theorem nc_kT {f : List AV → XR} (h : ∀ b, NC (f b)) (v : AV) : NC (v.kT .bad f) := by cases v <;> first | trivial | exact h _
theorem nc_xAlloc (o : Op) : NC (xAlloc P o e s) := by
  unfold xAlloc
  cases allocOb P e o <;> trivial
theorem nc_xConv (a b : TypeId) (x : Operand) : NC (xConv P a b x e s) := by
  unfold xConv
  split
  · exact nc_xAlloc _
  · refine nc_wV fun v => ?_
    split
    · exact nc_valP _
    · exact nc_valO _
theorem xop_nc {o : Op} (h1 : ∀ c, o ≠ .call c) (h2 : ∀ c, o ≠ .defer c) : NC (xop P o e s) := by
  cases o with
  | call c => exact absurd rfl (h1 c)
  | defer c => exact absurd rfl (h2 c)
  | pick c a b =>
    refine nc_wV fun v => ?_
    refine nc_kB (fun b => ?_) v
    cases b <;> exact nc_valO _
  | convert a b x => exact nc_xConv a b x
  | nilCheck x =>
    show NC (xNilCheck x e s)
    unfold xNilCheck
    refine nc_wV fun v => ?_
    split <;> trivial
  | typeAssert x a b ok =>
    show NC (xTypeAssert P x a b ok e s)
    unfold xTypeAssert
    refine nc_wV fun v => ?_
    split
    · split
      · exact nc_valO _
      · trivial
    · trivial
  | makeFunc f a b =>
    show NC (xFunc f a b e s)
    unfold xFunc
    split
    · exact nc_valO _
    · trivial
  | _ => first
    | trivial
    | exact nc_valO _
    | exact nc_xAlloc _
    | exact nc_wV fun _ => nc_valO _
    | exact nc_wV fun _ => nc_wV fun _ => nc_valO _
    | exact nc_wV fun v => nc_kP (fun _ _ => nc_valO _) v
    | exact nc_wV fun v => nc_kP (fun _ _ => nc_wV fun _ => nc_valS _) v
    | exact nc_wV fun v => nc_kT (fun _ => nc_valO _) v
    | exact nc_wV fun _ => nc_wV fun _ => nc_wV fun _ => nc_valS _
theorem xop_call {o : Op} {f : FuncId} {as : List AV} (h : xop P o e s = .call f as s') : ∃ c, o = .call c ∧ xCall P c e s = .call f as s' := by
  by_cases h1 : ∃ c, o = .call c
  · obtain ⟨c, rfl⟩ := h1; exact ⟨c, rfl, h⟩
  · by_cases h2 : ∃ c, o = .defer c
    · obtain ⟨c, rfl⟩ := h2
      by_cases hb : xDefer c e s = .bad
      · rw [show xop P (.defer c) e s = xDefer c e s from rfl, hb] at h; cases h
      · exfalso
        have h : xDefer c e s = .call f as s' := h
        unfold xDefer at h
        cases ha : opds e c.args.toList with
        | none => rw [ha] at h; cases h
        | some args =>
          rw [ha] at h
          cases hc : c.callee with
          | builtin b => simp only [hc] at h; cases h
          | invoke x n => simp only [hc] at h; cases h
          | value g =>
            simp only [hc] at h
            obtain ⟨u, hu, h⟩ := wV_eq h (by simp)
            cases u <;> cases h
    · have := xop_nc (P := P) (e := e) (s := s) (fun c hc => h1 ⟨c, hc⟩) (fun c hc => h2 ⟨c, hc⟩)
      rw [h] at this; cases this
theorem xop_round {o : Op} {i : Nat} {as : List AV} (h : xop P o e s = .round i as s') : ∃ c, o = .call c ∧ xCall P c e s = .round i as s' := by
  by_cases h1 : ∃ c, o = .call c
  · obtain ⟨c, rfl⟩ := h1; exact ⟨c, rfl, h⟩
  · by_cases h2 : ∃ c, o = .defer c
    · obtain ⟨c, rfl⟩ := h2
      exfalso
      have h : xDefer c e s = .round i as s' := h
      unfold xDefer at h
      cases ha : opds e c.args.toList with
      | none => rw [ha] at h; cases h
      | some args =>
        rw [ha] at h
        cases hc : c.callee with
        | builtin b => simp only [hc] at h; cases h
        | invoke x n => simp only [hc] at h; cases h
        | value g =>
          simp only [hc] at h
          obtain ⟨u, hu, h⟩ := wV_eq h (by simp)
          cases u <;> cases h
    · have := xop_nc (P := P) (e := e) (s := s) (fun c hc => h1 ⟨c, hc⟩) (fun c hc => h2 ⟨c, hc⟩)
      rw [h] at this; cases this
theorem xop_dfr {o : Op} {f : FuncId} {as : List AV} (h : xop P o e s = .dfr f as s') : ∃ c, o = .defer c ∧ xDefer c e s = .dfr f as s' := by
  by_cases h2 : ∃ c, o = .defer c
  · obtain ⟨c, rfl⟩ := h2; exact ⟨c, rfl, h⟩
  · by_cases h1 : ∃ c, o = .call c
    · obtain ⟨c, rfl⟩ := h1
      exfalso
      obtain ⟨args, ha, ⟨b, hb, h⟩ | ⟨_, _, _, _, _, _, h⟩ | ⟨_, _, _, _, h⟩⟩ := xCall_eq (by simp) (show xCall P c e s = .dfr f as s' from h)
      · rcases xBuiltin_val (P := P) (b := b) (ats := c.argTypes.toList) (args := args) (s := s) with ⟨v, s1, e1⟩ | e1 <;> rw [e1] at h <;> cases h
      · cases h
      · cases h
    · have := xop_nc (P := P) (e := e) (s := s) (fun c hc => h1 ⟨c, hc⟩) (fun c hc => h2 ⟨c, hc⟩)
      rw [h] at this; cases this
end Go.Hb

/-
  What the evaluator's tasks mean; one operation with its calls.
-/
namespace Go.Hb
open Go Go.Lib

/-- A fence that lets everything in. -/
inductive FW : Fence → Prop
  | wide : FW .wide
  | round (l : Nat) : FW (Fence.wide.inRound l)
section
variable {P : Program} {F : Fence}
theorem FW.fn (h : FW F) (f : FuncId) : F.fn f := by cases h <;> trivial
theorem FW.depth (h : FW F) {p : Prop} : F.depth.isSome = true → p := by cases h <;> simp [Fence.wide]
theorem FW.calls (h : FW F) {n : Nat} {f : FuncId} {args : Array Value} {w : World} {R : Ending → World → Prop} (k : Calls P f args w R) : CallsIn F n P f args w R := by
  cases h with
  | wide => exact callsIn_wide.2 k
  | round l => exact CallsIn.inRound l (callsIn_wide.2 k)
theorem FW.rounds (h : FW F) {n m l : Nat} {f : FuncId} {tmps : Array Value} {asg body : Code} {w : World} {R : Ending → World → Prop} (k : RoundIn .wide m P l f tmps asg body w R) : RoundIn F n P l f tmps asg body w R := by
  cases h with
  | wide => exact ⟨trivial, fun c cs _ => k.2 c cs (room_wide _)⟩
  | round j => exact ⟨trivial, fun c cs _ => k.2 c cs (room_wide _)⟩
end
/-- Before a loop's body, the loop behind it. -/
def LoopWp (F : Fence) (n : Nat) (P : Program) (c : Code) (Q : Exit → Act → World → Prop) (a : Act) (w : World) : Prop :=
  ∀ (b : Frame) (k : List Item) (cs : List Frame), b.roundOf = F.round → F.fn b.fn → F.room (cs.length + 1 + n) →
    ∃ e a' w', Q e a' w' ∧ ArrivesIn (Machine.fenced P F) P (lone (b.atR a (.code c :: .inLoop c :: k)) cs w) b k cs e a' w'
variable {P : Program} (τ : Nat → Value) {ρ : Ro}
/-- The deferred calls. -/
inductive DfRel (ρ : Ro) : List (Sum Nat (FuncId × List AV)) → List Deferred → Prop
  | nil : DfRel ρ [] []
  | mark {b : Nat} {pl : Pl} {d : Deferred} {l : List (Sum Nat (FuncId × List AV))} {m : List Deferred} (hp : ρ b = some pl) (hd : d.target = .collected pl.b) (t : DfRel ρ l m) : DfRel ρ (.inl b :: l) (d :: m)
  | call {f : FuncId} {as : List AV} {xs ws : List Value} {l : List (Sum Nat (FuncId × List AV))} {m : List Deferred} (hr : RelL τ ρ as (xs ++ ws)) (t : DfRel ρ l m) :
      DfRel ρ (.inr (f, as) :: l) ({ target := .fn (.func f) ⟨ws⟩, args := ⟨xs⟩ } :: m)
structure ActRel (ρ : Ro) (a : ActA) (A : Act) : Prop where
  env : EnvRel τ ρ a.env a.nt A.tmps
  df : DfRel τ ρ a.df A.defers
def Out (ρ : Ro) (s : St) (w : World) (a' : ActA) (s' : St) (A' : Act) (w' : World) : Prop := ∃ ρ', Sim τ ρ' s' w' ∧ Lat ρ s w ρ' s' w' ∧ ActRel τ ρ' a' A'
/-- What a code comes to. -/
def CQ (ρ : Ro) (s : St) (w : World) : Res → Exit → Act → World → Prop
  | .nrm a' s', .normal, A', w' => Out τ ρ s w a' s' A' w'
  | .ret a' s', .ret, A', w' => Out τ ρ s w a' s' A' w'
  | .exit i a' s', .exit j, A', w' => i = j ∧ Out τ ρ s w a' s' A' w'
  | _, _, _, _ => False
def isC : Res → Prop
  | .nrm _ _ => True
  | .ret _ _ => True
  | .exit _ _ _ => True
  | _ => False
/-- What a call comes to. -/
def RQ (ρ : Ro) (s : St) (w : World) (v : AV) (s' : St) : Ending → World → Prop := fun e w' => ∃ u ρ', e = .returned u ∧ Rel τ ρ' v u ∧ Sim τ ρ' s' w' ∧ Lat ρ s w ρ' s' w'
variable (P)
/-- What is asked of the program and the rest. -/
structure Env (X : FuncId → Option Ext) : Prop where
  plain : Plain τ
  nb : ∀ n b, τ n ≠ .bool b
  name : ∀ (f : FuncId) (fn : Func), P.funcs[f]? = some fn → fn.name ≠ "runtime.NumGoroutine"
  mixed : P.follows .mixedOrders = true
  ext : ∀ f x, X f = some x → ∀ {ρ : Ro} {s s' : St} {w : World} {args : List AV} {us : List Value} {v : AV}, Sim τ ρ s w → RelL τ ρ args us → extA x args s = some (v, s') →
    ∃ u w' ρ', (callFunc f ⟨us⟩).run P w = .ok (.value u) w' ∧ Rel τ ρ' v u ∧ Sim τ ρ' s' w' ∧ Lat ρ s w ρ' s' w'
structure Sound (rc : Task → Res) : Prop where
  code : ∀ {c : Code} {rd : Bool} {a : ActA} {s : St} {ρ : Ro} {w : World} {A : Act} {F : Fence} {m : Nat}, FW F → (rd = false → F.round = none) → Sim τ ρ s w → ActRel τ ρ a A → isC (rc (.code c rd a s)) →
    c.wpIn F m P (CQ τ ρ s w (rc (.code c rd a s))) A w
  loop : ∀ {c : Code} {rd : Bool} {a : ActA} {s : St} {ρ : Ro} {w : World} {A : Act} {F : Fence} {m : Nat}, FW F → (rd = false → F.round = none) → Sim τ ρ s w → ActRel τ ρ a A → isC (rc (.code (.loop c) rd a s)) →
    LoopWp F m P c (CQ τ ρ s w (rc (.code (.loop c) rd a s))) A w
  call : ∀ {f : FuncId} {args : List AV} {s s' : St} {v : AV} {ρ : Ro} {w : World} {us : List Value}, rc (.call f args s) = .val v s' → Sim τ ρ s w → RelL τ ρ args us →
    (callFunc f ⟨us⟩).run P w = .ok (.enter f ⟨us⟩) w ∧ Calls P f ⟨us⟩ w (RQ τ ρ s w v s')
  round : ∀ {i : Nat} {args : List AV} {s s' : St} {v : AV} {ρ : Ro} {w : World} {us : List Value} {pl : Pl}, rc (.round i args s) = .val v s' → Sim τ ρ s w → ρ i = some pl → RelL τ ρ args us →
    ∃ f T asg body, (Instr.yield pl.b ⟨us⟩).run P w = .ok (.round pl.b f T asg body) w ∧ RoundIn .wide 0 P pl.b f T asg body w (RQ τ ρ s w v s')
  dcall : ∀ {f : FuncId} {args : List AV} {s s' : St} {v : AV} {ρ : Ro} {w : World} {us : List Value}, rc (.dcall f args s) = .val v s' → Sim τ ρ s w → RelL τ ρ args us →
    (callFunc f ⟨us⟩).run P w = .ok (.enter f ⟨us⟩) w ∧ ∀ m, CallsDIn .wide m P f ⟨us⟩ .returning w (fun e u' w' => u' = .returning ∧ RQ τ ρ s w v s' e w')
  dcode : ∀ {c : Code} {a : ActA} {s : St} {ρ : Ro} {w : World} {A : Act} {m : Nat} {cs : List Frame}, recoverD cs = none → Sim τ ρ s w → ActRel τ ρ a A → isC (rc (.dcode c a s)) →
    c.wpSIn .wide m P (fun e A' cs' w' => cs' = cs ∧ CQ τ ρ s w (rc (.dcode c a s)) e A' w') A cs w
variable {P τ}
section
variable {ρ ρ' : Ro} {s s' s₁ s₂ : St} {w w' w₁ w₂ : World} {a a' : ActA} {A A' : Act} {v : AV} {u : Value}
theorem DfRel.mono (h : Le ρ ρ') {l : List (Sum Nat (FuncId × List AV))} {m : List Deferred} (k : DfRel τ ρ l m) : DfRel τ ρ' l m := by
  induction k with
  | nil => exact .nil
  | mark hp hd _ ih => exact .mark (h _ _ hp) hd ih
  | call hr _ ih => exact .call (hr.mono h) ih
theorem ActRel.mono (h : Le ρ ρ') (k : ActRel τ ρ a A) : ActRel τ ρ' a A := ⟨k.env.mono h, k.df.mono h⟩
theorem Out.of (hL : Lat ρ s w ρ' s₁ w₁) (h : Out τ ρ' s₁ w₁ a' s' A' w') : Out τ ρ s w a' s' A' w' :=
  let ⟨ρ₂, h1, h2, h3⟩ := h; ⟨ρ₂, h1, hL.trans h2, h3⟩
theorem CQ.of (hL : Lat ρ s w ρ' s₁ w₁) {r : Res} {e : Exit} (h : CQ τ ρ' s₁ w₁ r e A' w') : CQ τ ρ s w r e A' w' := by
  cases r <;> cases e <;> first | exact h.elim | exact Out.of hL h | exact ⟨h.1, Out.of hL h.2⟩
theorem RQ.of (hL : Lat ρ s w ρ' s₁ w₁) {e : Ending} (h : RQ τ ρ' s₁ w₁ v s' e w') : RQ τ ρ s w v s' e w' :=
  let ⟨u, ρ₂, h0, h1, h2, h3⟩ := h; ⟨u, ρ₂, h0, h1, h2, hL.trans h3⟩

/-! ### Temporaries, guards -/
theorem env_put {e : PT AV} {nt : Nat} {tmps : Array Value} (h : EnvRel τ ρ e nt tmps) {t : Nat} (ht : t < nt) (hr : Rel τ ρ v u) : EnvRel τ ρ (e.set t v) nt (tmps.setIfInBounds t u) := by
  have hs := h.size
  refine ⟨by simpa using hs, fun i x hx => ?_, fun i hx => ?_⟩
  · rw [PT.get_set] at hx
    by_cases hi : i = t
    · subst hi
      rw [if_pos rfl] at hx; cases hx
      exact ⟨u, by simp [hs, ht], hr⟩
    · rw [if_neg hi] at hx
      obtain ⟨y, hy, hry⟩ := h.some i x hx
      exact ⟨y, by rw [Array.getElem?_setIfInBounds_ne (Ne.symm hi)]; exact hy, hry⟩
  · rw [PT.get_set] at hx
    by_cases hi : i = t
    · subst hi; rw [if_pos rfl] at hx; cases hx
    · rw [if_neg hi] at hx
      have := h.none i hx
      rw [Array.getD_eq_getD_getElem?] at this ⊢
      rw [Array.getElem?_setIfInBounds_ne (Ne.symm hi)]
      exact this
theorem putK_eq {β : Type} {d : Option Tmp} {bad r : β} {k : ActA → β} (h : putK a d v bad k = r) (hb : r ≠ bad) (hr : Rel τ ρ v u) (hA : ActRel τ ρ a A) :
    ∃ a', k a' = r ∧ ActRel τ ρ a' (A.put d u) ∧ a'.nt = a.nt ∧ a'.df = a.df := by
  cases d with
  | none => exact ⟨a, h, hA, rfl, rfl⟩
  | some t =>
    obtain ⟨env, nt, df⟩ := a
    have h : Bool.rec (motive := fun _ => β) bad (k ⟨env.set t v, nt, df⟩) (Nat.ble (Nat.succ t) nt) = r := h
    rw [boolRec_eq, natBle_eq] at h
    by_cases ht : t + 1 ≤ nt
    · rw [if_pos (by simpa using ht)] at h
      exact ⟨_, h, ⟨env_put hA.env (Nat.lt_of_succ_le ht) hr, hA.df⟩, rfl, rfl⟩
    · rw [if_neg (by simpa using ht)] at h
      exact absurd h.symm hb
theorem wanted_eq (hnb : ∀ n b, τ n ≠ .bool b) {e : PT AV} {nt : Nat} {tmps : Array Value} (h : EnvRel τ ρ e nt tmps) (ops : Array Oper) (o : Oper) : Region.wanted o (yielded ops tmps) = wantedA ops.toList e o := by
  unfold Region.wanted wantedA
  cases hg : o.guard with
  | none => rfl
  | some g =>
    obtain ⟨j, want⟩ := g
    show (yielded ops tmps j == some want) = (match oB (nth ops.toList j) fun q => oB q.dst fun t => e.get t with
      | some (.bool b) => eqBool b want
      | _ => false)
    rw [nth_eq, Array.getElem?_toList]
    unfold yielded
    cases hq : ops[j]? with
    | none => rfl
    | some q =>
      cases hd : q.dst with
      | none => simp [hd, oB_some, oB]
      | some t =>
        simp only [oB_some, hd, Option.bind_some]
        cases ht : e.get t with
        | none =>
          have := h.none t ht
          rw [Array.getD_eq_getD_getElem?] at this
          cases hx : tmps[t]? with
          | none => simp
          | some y => rw [hx] at this; simp at this; subst this; simp [undef]
        | some x =>
          obtain ⟨y, hy, hr⟩ := h.some t x ht
          rw [hy]
          cases hr with
          | bool b => simp [eqBool_eq]
          | sym n => have := hnb n; revert this; generalize τ n = z; intro this; cases z <;> first | rfl | exact absurd rfl (this _)
          | _ => rfl
end
end Go.Hb

/-
  An operation with its calls, a region in its order.
-/
namespace Go.Hb
open Go Go.Lib
variable {P : Program} {τ : Nat → Value} {X : FuncId → Option Ext} {rc : Task → Res}
variable {ρ : Ro} {s : St} {w : World} {a : ActA} {A : Act} {F : Fence} {n : Nat}

theorem resK_eq {β : Type} {bad r : β} {k : AV → St → β} {x : Res} (h : resK bad k x = r) (hb : r ≠ bad) : ∃ v s', x = .val v s' ∧ k v s' = r := by
  cases x <;> first | exact absurd h.symm hb | exact ⟨_, _, rfl, h⟩
theorem optRec_res {α β : Type} {bad r : β} {k : α → β} {x : Option α} (h : Option.rec (motive := fun _ => β) bad k x = r) (hb : r ≠ bad) : ∃ v, x = some v ∧ k v = r := by
  cases x with
  | none => exact absurd h.symm hb
  | some v => exact ⟨v, rfl, h⟩
theorem ctx_of (E : Env P τ X) (hS : Sim τ ρ s w) (hA : ActRel τ ρ a A) : Ctx τ ρ a.env a.nt s w A := ⟨E.plain, hS, hA.env⟩
theorem op_wpIn (E : Env P τ X) (S : Sound P τ rc) (hF : FW F) {rd : Bool} (hrd : rd = false → F.round = none) (hS : Sim τ ρ s w) (hA : ActRel τ ρ a A) {o : Oper} {k : ActA → St → Res} {r : Res}
    (h : runD X rc rd o.dst a k (xop P o.op a.env s) = r) (hr : r ≠ .bad) {K : Act → World → Prop} {Q : Exit → Act → World → Prop}
    (hK : ∀ a' s' A' w', k a' s' = r → Out τ ρ s w a' s' A' w' → K A' w') : o.wpIn F n P A w K Q := by
  have c := ctx_of E hS hA
  refine ⟨fun f _ => hF.fn f, ?_⟩
  -- what stands behind a value
  have fin : ∀ {v : AV} {u : Value} {ρ' : Ro} {s' : St} {w' : World}, putK a o.dst v .bad (fun a' => k a' s') = r → Rel τ ρ' v u → Sim τ ρ' s' w' → Lat ρ s w ρ' s' w' → K (A.put o.dst u) w' := by
    intro v u ρ' s' w' hp hrel hS' hL
    obtain ⟨a', hk, hA', _, _⟩ := putK_eq hp hr hrel (hA.mono (hL.le hS))
    exact hK a' s' _ w' hk ⟨ρ', hS', hL, hA'⟩
  cases hx : xop P o.op a.env s with
  | bad => rw [hx] at h; exact absurd h.symm hr
  | val v s' =>
    rw [hx] at h
    have hnd : ∀ c, o.op ≠ .defer c := fun c hc => by rw [hc] at hx; exact xDefer_noval c hx
    rw [Oper.semAt_eq _ _ _ hnd]
    obtain ⟨u, w', ρ', hrun, hrel, hS', hL⟩ := xop_val c hx
    rcases hrun with hrun | ⟨hrun, hu⟩
    · rw [hrun, Oper.uponIn_value]
      exact fin h hrel hS' hL
    · rw [hrun, Oper.uponIn_skip, ← hu]
      exact fin h hrel hS' hL
  | call f args s' =>
    rw [hx] at h
    obtain ⟨cl, ho, hc⟩ := xop_call hx
    have hnd : ∀ c, o.op ≠ .defer c := fun c hc => by rw [ho] at hc; cases hc
    rw [Oper.semAt_eq _ _ _ hnd]
    obtain ⟨rfl, us, hus, hrun⟩ := xCall_call c ho hc
    rw [hrun]
    have h : Option.rec (motive := fun _ => Res) (resK .bad (fun v s'' => putK a o.dst v .bad fun a' => k a' s'') (rc (.call f args s')))
      (fun x => Option.rec (motive := fun _ => Res) .bad (fun p => putK a o.dst p.1 .bad fun a' => k a' p.2) (extA x args s')) (X f) = r := h
    cases hX : X f with
    | none =>
      rw [hX] at h
      obtain ⟨v, s'', hv, hk⟩ := resK_eq h hr
      obtain ⟨h1, h2⟩ := S.call hv hS hus
      rw [h1, Oper.uponIn_enter]
      refine ⟨hF.depth, CallsIn.mono (hF.calls h2) fun e w'' he => ?_⟩
      obtain ⟨u, ρ', rfl, hrel, hS', hL⟩ := he
      exact fin hk hrel hS' hL
    | some x =>
      rw [hX] at h
      obtain ⟨p, hp, hk⟩ := optRec_res h hr
      obtain ⟨u, w', ρ', hrun2, hrel, hS', hL⟩ := E.ext f x hX hS hus hp
      rw [hrun2, Oper.uponIn_value]
      exact fin hk hrel hS' hL
  | round i args s' =>
    rw [hx] at h
    obtain ⟨cl, ho, hc⟩ := xop_round hx
    have hnd : ∀ c, o.op ≠ .defer c := fun c hc => by rw [ho] at hc; cases hc
    rw [Oper.semAt_eq _ _ _ hnd]
    obtain ⟨rfl, us, pl, hus, hpl, hrun⟩ := xCall_round c ho hc
    rw [hrun]
    obtain ⟨v, s'', hv, hk⟩ := resK_eq (show resK .bad (fun v s'' => putK a o.dst v .bad fun a' => k a' s'') (rc (.round i args s')) = r from h) hr
    obtain ⟨f, T, asg, body, h1, h2⟩ := S.round hv hS hpl hus
    rw [h1, Oper.uponIn_round]
    refine ⟨hF.depth, RoundIn.mono (hF.rounds h2) fun e w'' he => ?_⟩
    obtain ⟨u, ρ', rfl, hrel, hS', hL⟩ := he
    exact fin hk hrel hS' hL
  | dfr f args s' =>
    rw [hx] at h
    obtain ⟨cl, ho, hc⟩ := xop_dfr hx
    have h : Bool.rec (motive := fun _ => Res) (ActA.rec (motive := fun _ => Res) (fun env nt df => putK ⟨env, nt, .inr (f, args) :: df⟩ o.dst undefA .bad fun a' => k a' s') a) .bad rd = r := h
    cases rd with
    | true => exact absurd h.symm hr
    | false =>
      rw [hrd rfl, Oper.semAt_none]
      obtain ⟨f', as', xs, ws, he, hus, hrun⟩ := xDefer_dfr (f := f) (as := args) c ho (by simp) hc
      cases he
      rw [hrun, Oper.uponIn_defer]
      obtain ⟨env, nt, df⟩ := a
      have hA2 : ActRel τ ρ ⟨env, nt, .inr (f, args) :: df⟩ { A with defers := { target := .fn (.func f) ⟨ws⟩, args := ⟨xs⟩ } :: A.defers } := ⟨hA.env, .call hus hA.df⟩
      obtain ⟨a', hk, hA', _, _⟩ := putK_eq h hr undef_rel hA2
      exact hK a' _ _ _ hk ⟨ρ, hS, .refl, hA'⟩
theorem reg_wpOps (E : Env P τ X) (S : Sound P τ rc) (hF : FW F) {rd : Bool} (hrd : rd = false → F.round = none) (ops : Array Oper) : ∀ (l : List Oper) (i : Nat) {ρ : Ro} {s : St} {w : World} {a : ActA} {A : Act} {r : Res} {Q : Exit → Act → World → Prop},
    ops.toList.drop i = l → Sim τ ρ s w → ActRel τ ρ a A → regSeq P X rc ops.toList rd l a s = r → r ≠ .bad → (∀ a' s' A' w', r = .nrm a' s' → Out τ ρ s w a' s' A' w' → Q .normal A' w') →
    wpOpsIn F n P ops Q (List.range' i l.length) A w := by
  intro l
  induction l with
  | nil =>
    intro i ρ s w a A r Q _ hS hA h _ hQ
    exact hQ a s A w h.symm ⟨ρ, hS, .refl, hA⟩
  | cons o l ih =>
    intro i ρ s w a A r Q hl hS hA h hr hQ
    have ho : ops[i]? = some o := by
      rw [← Array.getElem?_toList]
      have := congrArg (·[0]?) hl
      simpa using this
    have hl' : ops.toList.drop (i + 1) = l := by
      have := congrArg List.tail hl
      simpa using this
    show wpOpsIn F n P ops Q (i :: List.range' (i + 1) l.length) A w
    simp only [wpOpsIn, ho, wanted_eq E.nb hA.env]
    have h : ActA.rec (motive := fun _ => Res) (fun env nt df =>
      Bool.rec (motive := fun _ => Res) (putK ⟨env, nt, df⟩ o.dst undefA .bad fun a' => regSeq P X rc ops.toList rd l a' s) (runD X rc rd o.dst ⟨env, nt, df⟩ (regSeq P X rc ops.toList rd l) (xop P o.op env s)) (wantedA ops.toList env o)) a = r := h
    obtain ⟨env, nt, df⟩ := a
    have next : ∀ a' s' A' w', regSeq P X rc ops.toList rd l a' s' = r → Out τ ρ s w a' s' A' w' → wpOpsIn F n P ops Q (List.range' (i + 1) l.length) A' w' := by
      intro a' s' A' w' hk ⟨ρ', hS', hL, hA'⟩
      exact ih (i + 1) hl' hS' hA' hk hr fun a2 s2 A2 w2 he ho => hQ a2 s2 A2 w2 he (Out.of hL ho)
    cases hw : wantedA ops.toList env o with
    | true =>
      simp only [hw] at h ⊢
      rw [if_pos trivial]
      exact op_wpIn E S hF hrd hS hA h hr next
    | false =>
      simp only [hw] at h ⊢
      rw [if_neg (by simp)]
      refine ⟨fun f _ => hF.fn f, ?_⟩
      obtain ⟨a', hk, hA', _, _⟩ := putK_eq h hr undef_rel hA
      exact next a' s _ w hk ⟨ρ, hS, .refl, hA'⟩
end Go.Hb

/-
  Code.
-/
namespace Go.Hb
open Go Go.Lib
variable {P : Program} {τ : Nat → Value} {X : FuncId → Option Ext} {rc : Task → Res}
variable {ρ : Ro} {s : St} {w : World} {a : ActA} {A : Act} {F : Fence} {n : Nat}

/-- A region that draws its order. -/
def DrawOk (P : Program) (τ : Nat → Value) (X : FuncId → Option Ext) (rc : Task → Res) : Prop :=
  ∀ {id : Nat} {ops : Array Oper} {a : ActA} {s : St} {ρ : Ro} {w : World} {A : Act} {F : Fence} {m : Nat}, FW F → Sim τ ρ s w → ActRel τ ρ a A → isC (regDraw P X rc ops.toList a s) →
    (Code.region id ops true).wpIn F m P (CQ τ ρ s w (regDraw P X rc ops.toList a s)) A w
theorem wpIn_scope {c : Code} {Q : Exit → Act → World → Prop} {w : World} (h : c.wpIn F n P (Exit.noGoto Q) A w) : (Code.scope c).wpIn F n P Q A w := by
  intro b k cs hro hb hr
  have h0 : (lone (b.atR A (.code (.scope c) :: k)) cs w).fenced P F := fenced_calm hb hr rfl
  have h1 : Go.step P (lone (b.atR A (.code (.scope c) :: k)) cs w) = .next (lone (b.atR A (.code c :: .inScope c :: k)) cs w) :=
    step_lone_go (by simp [stepG, stepG.exec, Frame.atR])
  obtain ⟨e, a₁, w₁, hq, harr⟩ := h b (.inScope c :: k) cs hro hb hr
  cases e with
  | normal =>
    have h2 : Go.step P (lone (b.atR a₁ (.inScope c :: k)) cs w₁) = .next (lone (b.atR a₁ k) cs w₁) := step_lone_go (by simp [stepG, stepG.exec, Frame.atR])
    exact ⟨.normal, a₁, w₁, hq, .head h0 h1 (StepsIn.trans harr (.one (fenced_calm hb hr rfl) h2))⟩
  | exit id =>
    have hx : exitTo id (.inScope c :: k) = exitTo id k := by simp [exitTo]
    exact ⟨.exit id, a₁, w₁, hq, fun k' hk => .head h0 h1 (harr.1 k' (by rw [hx]; exact hk)),
      fun hr' hk => let ⟨k₁, e1, e2⟩ := harr.2 hr' (by rw [hx]; exact hk); ⟨k₁, e1, .head h0 h1 e2⟩⟩
  | goto l => exact hq.elim
  | ret => exact ⟨_, a₁, w₁, hq, .of_steps (.one h0 h1) harr⟩
  | panic ch => exact ⟨_, a₁, w₁, hq, .of_steps (.one h0 h1) harr⟩
  | outgrown => exact ⟨_, a₁, w₁, hq, .of_steps (.one h0 h1) harr⟩
theorem wpIn_of_loop {c : Code} {Q : Exit → Act → World → Prop} {w : World} (h : LoopWp F n P c Q A w) : (Code.loop c).wpIn F n P Q A w := by
  intro b k cs hro hb hr
  obtain ⟨e, a', w', hq, harr⟩ := h b k cs hro hb hr
  exact ⟨e, a', w', hq, .of_steps (.one (fenced_calm hb hr rfl) stepR_loop) harr⟩
theorem loopWp_step {c : Code} {Q : Exit → Act → World → Prop} {w : World} (h : c.wpIn F n P (Exit.then (LoopWp F n P c Q) Q) A w) : LoopWp F n P c Q A w := by
  intro b k cs hro hb hr
  obtain ⟨e, a₁, w₁, hq, harr⟩ := h b (.inLoop c :: k) cs hro hb hr
  cases e with
  | normal =>
    obtain ⟨e₂, a₂, w₂, hq₂, harr₂⟩ := hq b k cs hro hb hr
    exact ⟨e₂, a₂, w₂, hq₂, .of_steps (StepsIn.trans harr (.one (fenced_calm hb hr rfl) stepR_inLoop)) harr₂⟩
  | exit id => exact ⟨_, a₁, w₁, hq, .pass (x := .inLoop c) rfl (fun _ _ => .inl (by simp)) harr⟩
  | goto l => exact ⟨_, a₁, w₁, hq, .pass (x := .inLoop c) rfl (fun _ _ => .inl (by simp)) harr⟩
  | ret => exact ⟨_, a₁, w₁, hq, .pass (x := .inLoop c) rfl (fun _ _ => .inl (by simp)) harr⟩
  | panic ch => exact ⟨_, a₁, w₁, hq, .pass (x := .inLoop c) rfl (fun _ _ => .inl (by simp)) harr⟩
  | outgrown => exact ⟨_, a₁, w₁, hq, .pass (x := .inLoop c) rfl (fun _ _ => .inl (by simp)) harr⟩
theorem LoopWp.mono {c : Code} {Q Q' : Exit → Act → World → Prop} {w : World} (h : LoopWp F n P c Q A w) (hq : ∀ e a w, Q e a w → Q' e a w) : LoopWp F n P c Q' A w :=
  fun b k cs hro hb hr => let ⟨e, a', w', q, r⟩ := h b k cs hro hb hr; ⟨e, a', w', hq _ _ _ q, r⟩
theorem nrmK_isC {k : ActA → St → Res} {r : Res} (h : isC (nrmK k r)) : isC r := by cases r <;> first | trivial | exact h.elim
/-- Code, then what comes of it. -/
theorem CQ_then {k : ActA → St → Res} {r : Res} (hi : isC (nrmK k r)) {e : Exit} {A' : Act} {w' : World} {N : Act → World → Prop} (h : CQ τ ρ s w r e A' w')
    (hn : ∀ a' s', nrmK k r = k a' s' → Out τ ρ s w a' s' A' w' → N A' w') : Exit.then N (CQ τ ρ s w (nrmK k r)) e A' w' := by
  cases r with
  | nrm a' s' => cases e <;> first | exact h.elim | exact hn a' s' rfl h
  | ret a' s' => cases e <;> first | exact h.elim | exact h
  | exit i a' s' => cases e <;> first | exact h.elim | exact h
  | bad => exact hi.elim
  | val v s' => exact hi.elim
theorem sim_setOb {i : Nat} {ob ob' : Ob} {pl : Pl} {obj : Obj} (hS : Sim τ ρ s w) (hp : ρ i = some pl) (h : s.h.get i = some ob) (ht : twinOf (some ob) = none) (hf : ¬ fixedOb ob) (ho : ObRel τ ρ (w.putObj pl.b obj) pl ob') :
    Sim τ ρ (s.setOb i ob') (w.putObj pl.b obj) ∧ Lat ρ s w ρ (s.setOb i ob') (w.putObj pl.b obj) :=
  sim_upd (x := none) hS h hp hf World.putObj_size (fun b hb => World.putObj_heap_other hb) rfl rfl rfl ho (.inl ht)
theorem loopObj {i : Nat} {L : LoopA} (hS : Sim τ ρ s w) (h : s.h.get i = some (.loop L)) : ∃ pl M, ρ i = some pl ∧ LoopRel τ ρ w pl L M := by
  obtain ⟨pl, hp, M, r⟩ := hS.ob i _ h
  exact ⟨pl, M, hp, r⟩
theorem sim_setLoop {i : Nat} {L L' : LoopA} {pl : Pl} {M M' : Loop} (hS : Sim τ ρ s w) (hp : ρ i = some pl) (h : s.h.get i = some (.loop L)) (r : LoopRel τ ρ w pl L M)
    (h1 : M'.state = L'.st) (h2 : M'.pending = L'.pend) (h3 : L'.ps = L.ps ∧ L'.asg = L.asg ∧ L'.body = L.body ∧ L'.env = L.env ∧ L'.nt = L.nt ∧ L'.df = L.df)
    (h4 : M'.params = M.params ∧ M'.assign = M.assign ∧ M'.body = M.body ∧ M'.tmps = M.tmps ∧ M'.defers = M.defers) :
    Sim τ ρ (s.setOb i (.loop L')) (w.putObj pl.b (.loop M')) ∧ Lat ρ s w ρ (s.setOb i (.loop L')) (w.putObj pl.b (.loop M')) := by
  have hlt : pl.b < w.heap.size := (Array.getElem?_eq_some_iff.1 r.blk).1
  obtain ⟨e1, e2, e3, e4, e5, e6⟩ := h3
  obtain ⟨f1, f2, f3, f4, f5⟩ := h4
  obtain ⟨pl', d1, d2⟩ := r.df
  refine sim_setOb hS hp h rfl (fun h => by cases h) ⟨M', World.putObj_heap_same hlt, h1, h2, ?_, ?_, ?_, ?_, pl', ?_, ?_⟩
  · rw [f1, e1]; exact r.ps
  · rw [f2, e2]; exact r.asg
  · rw [f3, e3]; exact r.body
  · rw [e4, e5, f4]; exact r.env
  · rw [e6]; exact d1
  · rw [f5]; exact d2
theorem cRange_ok (E : Env P τ X) (S : Sound P τ rc) (hF : FW F) {rd : Bool} (hrd : rd = false → F.round = none) (hS : Sim τ ρ s w) (hA : ActRel τ ρ a A) {f : Operand} {ps : Array Tmp} {asg body : Code}
    (hi : isC (cRange f ps asg body rc rd a s)) : (Code.rangeFunc f ps asg body).wpIn F n P (CQ τ ρ s w (cRange f ps asg body rc rd a s)) A w := by
  generalize hres : cRange f ps asg body rc rd a s = res at hi
  unfold cRange at hres
  split at hres <;> first | (subst hres; exact hi.elim) | skip
  rename_i _ g fi ca hop
  split at hres <;> first | (subst hres; exact hi.elim) | skip
  rename_i v s2 hcall
  split at hres <;> first | (subst hres; exact hi.elim) | skip
  rename_i L hL
  have hro := hrd rfl
  -- the record
  let w1 := w.alloc (.deferred (some []))
  let ρ1 := upd ρ s.nx ⟨w.heap.size, 0, 0⟩
  obtain ⟨a1, b1⟩ := sim_new hS (.deferred (some [])) .dfr 0 (alloc_new w _)
  have hle1 := b1.le hS
  have key : ∀ fn : FuncId, ∃ (ρ2 : Ro) (w2 : World), (Instr.enterLoop fn A.tmps ps asg body none).run P w = .ok (w.heap.size + 1, [{ target := .collected w.heap.size, args := #[] }]) w2 ∧
      ρ2 (s.nx + 1) = some ⟨w.heap.size + 1, 0, 0⟩ ∧ ρ2 s.nx = some ⟨w.heap.size, 0, 0⟩ ∧ Sim τ ρ2 (rangeSt ps asg body a s) w2 ∧ Lat ρ s w ρ2 (rangeSt ps asg body a s) w2 := by
    intro fn
    have hob : ObRel τ (upd (upd ρ s.nx ⟨w.heap.size, 0, 0⟩) (s.nx + 1) ⟨w.heap.size + 1, 0, 0⟩)
        ((w.alloc (.deferred (some []))).alloc (.loop { state := .ready, pending := none, fn, tmps := A.tmps, params := ps, assign := asg, body, defers := w.heap.size })) ⟨w.heap.size + 1, 0, 0⟩
        (.loop ⟨.ready, none, a.env, a.nt, ps, asg, body, s.nx⟩) := by
      have hs1 : (w.alloc (.deferred (some []))).heap.size = w.heap.size + 1 := by simp
      have hn := alloc_new (w.alloc (.deferred (some []))) (.loop { state := .ready, pending := none, fn, tmps := A.tmps, params := ps, assign := asg, body, defers := w.heap.size })
      rw [hs1] at hn
      refine ⟨_, hn, rfl, rfl, rfl, rfl, rfl, ?_, ⟨w.heap.size, 0, 0⟩, ?_, rfl⟩
      · exact (hA.env.mono hle1).mono (le_upd a1 _ (by rw [nx_put_St]; omega))
      · show upd _ _ _ s.nx = _
        rw [upd_ne (by omega)]; exact upd_same _ _ _
    have hs1 : (w.alloc (.deferred (some []))).heap.size = w.heap.size + 1 := by simp
    have hn1 : (s.put .dfr).nx = s.nx + 1 := rfl
    have := sim_new a1 (.loop { state := .ready, pending := none, fn, tmps := A.tmps, params := ps, assign := asg, body, defers := w.heap.size }) (.loop ⟨.ready, none, a.env, a.nt, ps, asg, body, s.nx⟩) 0
      (by rw [hs1, hn1]; exact hob)
    rw [hs1, hn1] at this
    obtain ⟨a2, b2⟩ := this
    refine ⟨_, _, run_enterLoop_outer fn A.tmps ps asg body, upd_same _ _ _, ?_, a2, b1.trans b2⟩
    rw [upd_ne (by omega)]; exact upd_same _ _ _
  refine wpIn_rangeFunc fun fn _ => ?_
  obtain ⟨ρ2, w2, hent, hl, hm, hS2, hL2⟩ := key fn
  have hle2 := hL2.le hS
  have hf := opd_rel hA.env hS.glob hop
  generalize hx : A.eval f = x at hf
  cases hf with | fn hf1 hf2 =>
  rename_i vs ws
  have hargs : RelL τ ρ2 (appL fi (.yld (s.nx + 1) :: ca)) (vs ++ (Value.func (.yield (w.heap.size + 1)) #[] #[] :: ws)) := by
    rw [appL_eq]
    exact (hf1.mono hle2).append (.cons (.yld (pl := ⟨w.heap.size + 1, 0, 0⟩) hl) (hf2.mono hle2))
  obtain ⟨hc1, hc2⟩ := S.call hcall hS2 hargs
  refine ⟨w.heap.size + 1, [{ target := .collected w.heap.size, args := #[] }], w2, { target := .fn (.func g) ⟨ws⟩, args := ⟨vs⟩ ++ #[.func (.yield (w.heap.size + 1)) #[] #[]] }, w2, g, ⟨vs ++ (Value.func (.yield (w.heap.size + 1)) #[] #[] :: ws)⟩, w2, ?_, ?_, fun _ _ => hF.fn _, ?_, hF.depth, ?_⟩
  · rw [hro]; exact hent
  · have hev : Act.eval A (.const (.func (.yield (w.heap.size + 1)) #[] #[])) = .func (.yield (w.heap.size + 1)) #[] #[] := rfl
    simp only [resolve, rangeCall, hx, Deferred.ofValue, Sem.run_pure, List.map_toArray, List.map_cons, List.map_nil, hev]
  · rw [show invoke (.fn (.func g) ⟨ws⟩) (⟨vs⟩ ++ #[.func (.yield (w.heap.size + 1)) #[] #[]]) = callFunc g ((⟨vs⟩ ++ #[.func (.yield (w.heap.size + 1)) #[] #[]]) ++ ⟨ws⟩) from rfl]
    rw [← hc1]
    congr 2
    apply Array.ext'
    simp
  · refine CallsIn.mono (hF.calls hc2) fun e w3 he => ?_
    obtain ⟨u, ρ3, rfl, hu, hS3, hL3⟩ := he
    obtain ⟨pl, M, hpl, r⟩ := loopObj hS3 hL
    have hpl' : pl = ⟨w.heap.size + 1, 0, 0⟩ := by
      have := hL3.keep (s.nx + 1) (by show s.nx + 1 < s.nx + 1 + 1; omega)
      rw [this, hl] at hpl
      exact (Option.some.inj hpl).symm
    subst hpl'
    have hmk : ρ3 s.nx = some ⟨w.heap.size, 0, 0⟩ := by
      rw [hL3.keep s.nx (by show s.nx < s.nx + 1 + 1; omega)]; exact hm
    split at hres
    · subst hres; exact hi.elim
    · rename_i hbusy
      have hb : M.state ≠ .busy := by rw [r.st]; exact fun e => hbusy e
      obtain ⟨a4, b4⟩ := sim_setLoop (L' := { L with st := .exhausted }) (M' := { M with state := .exhausted }) hS3 hpl hL r rfl r.pend ⟨rfl, rfl, rfl, rfl, rfl, rfl⟩ ⟨rfl, rfl, rfl, rfl, rfl⟩
      have hA4 : ActRel τ ρ3 ⟨a.env, a.nt, .inl s.nx :: a.df⟩ { A with defers := [{ target := .collected w.heap.size, args := #[] }] ++ A.defers } :=
        ⟨(hA.env.mono hle2).mono (hL3.le hS2), .mark hmk rfl ((hA.df.mono hle2).mono (hL3.le hS2))⟩
      refine ⟨M.pending, _, run_endLoop r.blk hb, ?_⟩
      have hpend := r.pend
      cases hp : L.pend with
      | none =>
        rw [hp] at hpend
        rw [hpend]
        rw [hp, hpend] at a4 b4
        simp only [hp] at hres
        subst hres
        exact ⟨ρ3, a4, (hL2.trans hL3).trans b4, hA4⟩
      | some c =>
        rw [hp] at hpend
        rw [hpend]
        rw [hp, hpend] at a4 b4
        simp only [hp] at hres
        subst hres
        exact wpIn_mono (S.code hF hrd a4 hA4 hi) fun e a' w' hq => CQ.of ((hL2.trans hL3).trans b4) hq
theorem code_ok (E : Env P τ X) (S : Sound P τ rc) (D : DrawOk P τ X rc) (hF : FW F) {rd : Bool} (hrd : rd = false → F.round = none) (hS : Sim τ ρ s w) (hA : ActRel τ ρ a A) {c : Code}
    (hi : isC (cdStep P X c rc rd a s)) : c.wpIn F n P (CQ τ ρ s w (cdStep P X c rc rd a s)) A w := by
  cases c with
  | skip => exact wpIn_skip ⟨ρ, hS, .refl, hA⟩
  | label l => exact wpIn_label ⟨ρ, hS, .refl, hA⟩
  | exit id => exact wpIn_exit ⟨rfl, ρ, hS, .refl, hA⟩
  | ret => exact wpIn_ret ⟨ρ, hS, .refl, hA⟩
  | goto l => exact hi.elim
  | refuse y => exact hi.elim
  | region id ops draw =>
    cases draw with
    | false =>
      have hi : isC (regSeq P X rc ops.toList rd ops.toList a s) := hi
      refine wpIn_region ?_
      show wpOpsIn F n P ops (CQ τ ρ s w (regSeq P X rc ops.toList rd ops.toList a s)) _ A w
      generalize hr : regSeq P X rc ops.toList rd ops.toList a s = r at hi
      have := reg_wpOps (n := n) E S hF hrd ops ops.toList 0 (Q := CQ τ ρ s w r) rfl hS hA hr (fun e => by subst e; exact hi.elim) (fun a' s' A' w' e ho => by subst e; exact ho)
      rw [List.range_eq_range']
      simpa using this
    | true => exact D hF hS hA hi
  | seq x y =>
    have hi : isC (nrmK (fun a' s' => rc (.code y rd a' s')) (rc (.code x rd a s))) := hi
    refine wpIn_seq (wpIn_mono (S.code hF hrd hS hA (nrmK_isC hi)) fun e A' w' hq => ?_)
    refine CQ_then hi hq fun a' s' he ho => ?_
    obtain ⟨ρ', hS', hL, hA'⟩ := ho
    show y.wpIn F n P (CQ τ ρ s w (nrmK (fun a' s' => rc (.code y rd a' s')) (rc (.code x rd a s)))) A' w'
    rw [he] at hi ⊢
    exact wpIn_mono (S.code hF hrd hS' hA' hi) fun e a2 w2 hq => CQ.of hL hq
  | cond c x y =>
    show (Code.cond c x y).wpIn F n P (CQ τ ρ s w (cCond c x y rc rd a s)) A w
    have hi : isC (cCond c x y rc rd a s) := hi
    unfold cCond at hi ⊢
    cases ho : opd a.env c with
    | none => rw [ho] at hi; exact hi.elim
    | some v =>
      rw [ho] at hi
      have hr := opd_rel hA.env hS.glob ho
      cases v <;> first | exact hi.elim | skip
      rename_i t
      generalize hx : A.eval c = z at hr
      cases hr
      refine wpIn_cond hx ?_
      cases t with
      | true => exact S.code hF hrd hS hA hi
      | false => exact S.code hF hrd hS hA hi
  | block id b =>
    have hi : isC (blkK id (rc (.code b rd a s))) := hi
    show (Code.block id b).wpIn F n P (CQ τ ρ s w (blkK id (rc (.code b rd a s)))) A w
    have hi2 : isC (rc (.code b rd a s)) := by
      cases hr : rc (.code b rd a s) <;> rw [hr] at hi <;> first | trivial | exact hi.elim
    refine wpIn_block (wpIn_mono (S.code hF hrd hS hA hi2) fun e A' w' hq => ?_)
    cases hr : rc (.code b rd a s) with
    | nrm a' s' => rw [hr] at hq; cases e <;> first | exact hq.elim | exact hq
    | ret a' s' => rw [hr] at hq; cases e <;> first | exact hq.elim | exact hq
    | exit i a' s' =>
      rw [hr] at hq
      cases e <;> first | exact hq.elim | skip
      obtain ⟨rfl, ho⟩ := hq
      show (if i = id then CQ τ ρ s w (Bool.rec (motive := fun _ => Res) (.exit i a' s') (.nrm a' s') (Nat.beq i id)) .normal A' w' else CQ τ ρ s w (Bool.rec (motive := fun _ => Res) (.exit i a' s') (.nrm a' s') (Nat.beq i id)) (.exit i) A' w')
      rw [boolRec_eq, natBeq_eq]
      by_cases hid : i = id
      · simp only [hid, decide_true, if_true]; exact ho
      · simp only [hid, decide_false, if_false, Bool.false_eq_true]; exact ⟨rfl, ho⟩
    | bad => rw [hr] at hq; exact hq.elim
    | val v s' => rw [hr] at hq; exact hq.elim
  | scope b =>
    have hi : isC (rc (.code b rd a s)) := hi
    show (Code.scope b).wpIn F n P (CQ τ ρ s w (rc (.code b rd a s))) A w
    refine wpIn_scope (wpIn_mono (S.code hF hrd hS hA hi) fun e A' w' hq => ?_)
    cases e <;> first | exact hq | skip
    cases hr : rc (.code b rd a s) <;> rw [hr] at hq <;> exact hq.elim
  | loop b =>
    refine wpIn_of_loop (loopWp_step ?_)
    have hi : isC (nrmK (fun a' s' => rc (.code (.loop b) rd a' s')) (rc (.code b rd a s))) := hi
    refine wpIn_mono (S.code hF hrd hS hA (nrmK_isC hi)) fun e A' w' hq => ?_
    refine CQ_then hi hq fun a' s' he ho => ?_
    obtain ⟨ρ', hS', hL, hA'⟩ := ho
    show LoopWp F n P b (CQ τ ρ s w (nrmK (fun a' s' => rc (.code (.loop b) rd a' s')) (rc (.code b rd a s)))) A' w'
    rw [he] at hi ⊢
    exact LoopWp.mono (S.loop hF hrd hS' hA' hi) fun e a2 w2 hq => CQ.of hL hq
  | rangeFunc f ps asg body => exact cRange_ok E S hF hrd hS hA hi
theorem loop_ok (S : Sound P τ rc) (hF : FW F) {rd : Bool} (hrd : rd = false → F.round = none) (hS : Sim τ ρ s w) (hA : ActRel τ ρ a A) {b : Code}
    (hi : isC (cdStep P X (.loop b) rc rd a s)) : LoopWp F n P b (CQ τ ρ s w (cdStep P X (.loop b) rc rd a s)) A w := by
  refine loopWp_step ?_
  have hi : isC (nrmK (fun a' s' => rc (.code (.loop b) rd a' s')) (rc (.code b rd a s))) := hi
  refine wpIn_mono (S.code hF hrd hS hA (nrmK_isC hi)) fun e A' w' hq => ?_
  refine CQ_then hi hq fun a' s' he ho => ?_
  obtain ⟨ρ', hS', hL, hA'⟩ := ho
  show LoopWp F n P b (CQ τ ρ s w (nrmK (fun a' s' => rc (.code (.loop b) rd a' s')) (rc (.code b rd a s)))) A' w'
  rw [he] at hi ⊢
  exact LoopWp.mono (S.loop hF hrd hS' hA' hi) fun e a2 w2 hq => CQ.of hL hq
end Go.Hb

/-
  Calls, rounds, deferred calls.
-/
namespace Go.Hb
open Go Go.Lib
variable {P : Program} {τ : Nat → Value} {X : FuncId → Option Ext} {rc : Task → Res}
variable {ρ : Ro} {s s' : St} {w : World} {a : ActA} {A : Act} {n : Nat} {v : AV}

/-! ### A function is entered, left -/
theorem enter_act {args : List AV} {us : List Value} {nt : Nat} (hr : RelL τ ρ args us) (h : args.length ≤ nt) :
    ActRel τ ρ ⟨envOf args 0 .lf, nt, []⟩ { tmps := ⟨us⟩ ++ Array.replicate (nt - (⟨us⟩ : Array Value).size) undef, defers := [] } := by
  have hl := hr.length
  refine ⟨⟨by simp; omega, fun t x hx => ?_, fun t hx => ?_⟩, .nil⟩
  · have hx : (PT.setL .lf 0 args).get t = some x := hx
    rw [PT.get_setL] at hx
    by_cases hc : 0 ≤ t ∧ t < 0 + args.length
    · rw [if_pos hc] at hx
      obtain ⟨u, hu, hru⟩ := hr.get hx
      refine ⟨u, ?_, hru⟩
      rw [Array.getElem?_append_left (by simp; omega)]
      simpa using hu
    · rw [if_neg hc] at hx; cases hx
  · have hx : (PT.setL .lf 0 args).get t = none := hx
    rw [PT.get_setL] at hx
    by_cases hc : 0 ≤ t ∧ t < 0 + args.length
    · rw [if_pos hc, Nat.sub_zero] at hx
      have := List.getElem?_eq_none_iff.1 hx
      omega
    · rw [Array.getD_eq_getD_getElem?, Array.getElem?_append_right (by simp; omega), Array.getElem?_replicate]
      split <;> rfl
theorem enterK_eq {f : FuncId} {args : List AV} {k : Func → Code → ActA → Res} {r : Res} (h : enterK P f args k = r) (hr : r ≠ .bad) :
    ∃ fn c, P.funcs[f]? = some fn ∧ fn.body = some c ∧ args.length ≤ fn.ntmps ∧ k fn c ⟨envOf args 0 .lf, fn.ntmps, []⟩ = r := by
  unfold enterK at h
  obtain ⟨fn, hf, h⟩ := optRec_res h hr
  obtain ⟨c, hc, h⟩ := optRec_res h hr
  rw [boolRec_eq, natBle_eq, len_eq] at h
  by_cases hl : args.length ≤ fn.ntmps
  · rw [if_pos (by simpa using hl)] at h
    exact ⟨fn, c, funT_eq hf, hc, hl, h⟩
  · rw [if_neg (by simpa using hl)] at h
    exact absurd h.symm hr
theorem run_callFunc (E : Env P τ X) {f : FuncId} {fn : Func} {c : Code} (hf : P.funcs[f]? = some fn) (hc : fn.body = some c) (us : Array Value) (w : World) : (callFunc f us).run P w = .ok (.enter f us) w := by
  have hn := E.name f fn hf
  simp [callFunc, hf, hc, hn]
theorem resA_run {e : PT AV} {nt : Nat} {tmps : Array Value} (hS : Sim τ ρ s w) (hE : EnvRel τ ρ e nt tmps) {g : ResultVar → Sem Value} (hg1 : ∀ t, g (.tmp t) = pure (tmps.getD t undef))
    (hg2 : ∀ a t, g (.cell a t) = (do loadVar t (← asAddr (tmps.getD a undef)))) : ∀ (rs : List ResultVar) (vs : List AV), resA P e s rs = some vs →
    ∃ us : List Value, (rs.mapM g).run P w = .ok us w ∧ RelL τ ρ vs us := by
  have hop : ∀ {t : Nat} {x : AV}, opd e (.tmp t) = some x → Rel τ ρ x (tmps.getD t undef) := fun {t x} h =>
    opd_rel (A := { tmps := tmps, defers := [] }) hE hS.glob h
  intro rs
  induction rs with
  | nil => intro vs h; cases h; exact ⟨[], by simp, .nil⟩
  | cons r rs ih =>
    intro vs h
    cases r with
    | tmp t =>
      replace h := oB_eq (show oB (opd e (.tmp t)) (fun v => oB (resA P e s rs) fun vs => some (v :: vs)) = some vs from h); obtain ⟨x, hx, h⟩ := h
      replace h := oB_eq h; obtain ⟨xs, hxs, h⟩ := h
      cases h
      obtain ⟨us, hus, hr⟩ := ih _ hxs
      refine ⟨_ :: us, ?_, .cons (hop hx) hr⟩
      simp only [List.mapM_cons, hg1, Sem.run_bind, Sem.run_pure, Result.andThen_ok, hus]
    | cell ad ty =>
      replace h := oB_eq (show oB (opd e (.tmp ad)) _ = some vs from h); obtain ⟨x, hx, h⟩ := h
      have hrx := hop hx
      cases x <;> first | (cases h; done) | skip
      replace h := oB_eq h; obtain ⟨y, hy, h⟩ := h
      replace h := oB_eq h; obtain ⟨xs, hxs, h⟩ := h
      cases h
      obtain ⟨us, hus, hr⟩ := ih _ hxs
      generalize hz : tmps.getD ad undef = z at hrx
      cases hrx with | ptr hpl =>
      obtain ⟨u, hu, hru⟩ := loadA_run (P := P) hS hpl hy
      refine ⟨u :: us, ?_, .cons hru hr⟩
      simp only [List.mapM_cons, hg2, hz, asAddr, Sem.run_bind, Sem.run_pure, Result.andThen_ok, hu, hus]
theorem results_run {e : PT AV} {nt : Nat} {tmps : Array Value} {fn : Func} {vs : List AV} (hS : Sim τ ρ s w) (hE : EnvRel τ ρ e nt tmps) (h : resA P e s fn.results.toList = some vs) :
    ∃ u, (results fn tmps).run P w = .ok u w ∧ Rel τ ρ (oneOrTup vs) u := by
  unfold results
  generalize hg : (fun x : ResultVar => (match x with
    | .tmp t => pure (tmps.getD t undef)
    | .cell a t => do loadVar t (← asAddr (tmps.getD a undef)) : Sem Value)) = g
  obtain ⟨us, hus, hr⟩ := resA_run (g := g) hS hE (fun t => by rw [← hg]) (fun a t => by rw [← hg]) _ _ h
  refine ⟨if h : us.toArray.size = 1 then us.toArray[0] else .tuple us.toArray, ?_, ?_⟩
  · rw [Array.mapM_eq_mapM_toList]
    simp only [Sem.run_bind, Sem.run_map, hus, Result.andThen_ok, Sem.run_pure]
  · cases hr with
    | nil => exact .tup .nil
    | cons h1 t =>
      cases t with
      | nil => exact h1
      | cons h2 t => exact .tup (.cons h1 (.cons h2 t))
theorem sim_gone {i : Nat} {o : Ob} {pl : Pl} {obj : Obj} (hS : Sim τ ρ s w) (hp : ρ i = some pl) (h : s.h.get i = some o) (ht : twinOf (some o) = none) (hf : ¬ fixedOb o) :
    Sim τ ρ (s.kill (some i)) (w.putObj pl.b obj) ∧ Lat ρ s w ρ (s.kill (some i)) (w.putObj pl.b obj) := by
  have hoth : ∀ j oj q, (s.kill (some i)).h.get j = some oj → ρ j = some q → q.b ≠ pl.b := fun j oj q hj hq e => by
    have hj' := kill_less s (some i) j oj hj
    have hji : j ≠ i := fun e => by subst e; rw [get_kill, if_pos rfl] at hj; cases hj
    have := (hS.sep i j o oj pl q (Ne.symm hji) h hj' hp hq e.symm).1
    rw [ht] at this; cases this
  refine ⟨⟨fun j oj hj => ?_, fun j k oj ok p q hjk hj hk => hS.sep j k oj ok p q hjk (kill_less _ _ _ _ hj) (kill_less _ _ _ _ hk), fun j hj => hS.top j (by rw [nx_kill] at hj; exact hj), hS.glob⟩,
    ⟨by rw [nx_kill]; exact Nat.le_refl _, fun _ _ => rfl, ?_, fun j oj q hj hq => .inl ⟨j, oj, q, kill_less _ _ _ _ hj, hq, rfl, id⟩, by rw [World.putObj_size]; exact Nat.le_refl _, rfl, rfl, rfl⟩⟩
  · obtain ⟨q, hq, r⟩ := hS.ob j oj (kill_less _ _ _ _ hj)
    exact ⟨q, hq, r.keep (Le.refl _) (World.putObj_heap_other (hoth j oj q hj hq))⟩
  · intro b _ hb
    exact World.putObj_heap_other fun e => hf (hb i o pl h hp e.symm)
/-- A frame leaves. -/
theorem leave_run (S : Sound P τ rc) {fn : Func} {tmps : Array Value} {nt : Nat} {e : PT AV} {ρ0 : Ro} {s0 : St} {w0 : World} : ∀ (ds : List (Sum Nat (FuncId × List AV))) (m : List Deferred) {ρ : Ro} {s : St} {w : World},
    leave P rc fn.results.toList e ds s = .val v s' → Sim τ ρ s w → EnvRel τ ρ e nt tmps → DfRel τ ρ ds m → Lat ρ0 s0 w0 ρ s w → LeavesInM .wide n P fn tmps (RQ τ ρ0 s0 w0 v s') m .returning w := by
  intro ds
  induction ds with
  | nil =>
    intro m ρ s w h hS hE hD hL
    cases hD
    unfold leave at h
    split at h <;> first | (cases h; done) | skip
    rename_i vs hvs
    cases h
    obtain ⟨u, hu, hr⟩ := results_run (P := P) hS hE hvs
    exact ⟨u, hu, u, ρ, rfl, hr, hS, hL⟩
  | cons d ds ih =>
    intro m ρ s w h hS hE hD hL
    cases hD with
    | mark hp hd t =>
      rename_i b pl d m
      unfold leave at h
      split at h <;> first | (cases h; done) | skip
      rename_i hob
      obtain ⟨pl', hp', hb⟩ := hS.ob b _ hob
      rw [hp] at hp'; cases hp'
      have hb : w.heap[pl.b]? = some (.deferred (some [])) := hb
      obtain ⟨a1, b1⟩ := sim_gone (obj := .deferred none) hS hp hob rfl (fun h => by cases h)
      refine ⟨by simp, .inl ⟨pl.b, _, hd, run_takeDeferred hb, ?_⟩⟩
      exact ih m h a1 hE t (hL.trans b1)
    | call hr t =>
      rename_i f as xs ws m
      have h : (match rc (.dcall f as s) with
        | .val _ s' => leave P rc fn.results.toList e ds s'
        | _ => .bad) = .val v s' := h
      split at h <;> first | (cases h; done) | skip
      rename_i u1 s1 hd
      obtain ⟨h1, h2⟩ := S.dcall hd hS hr
      refine ⟨by simp, .inr ⟨fun h => by simp [Fence.wide] at h, .func f, ⟨ws⟩, f, ⟨xs ++ ws⟩, rfl, ?_, fun _ _ => trivial, ?_⟩⟩
      · rw [← h1]
        show (callFunc f (⟨xs⟩ ++ ⟨ws⟩)).run P w = _
        congr 2
        apply Array.ext'
        simp
      · refine CallsDIn.mono (h2 _) fun e' u' w' hq => ?_
        obtain ⟨rfl, u, ρ', rfl, hu, hS', hL'⟩ := hq
        exact ih m h hS' (hE.mono (hL'.le hS)) (t.mono (hL'.le hS)) (hL.trans hL')
/-- A call. -/
theorem call_ok (E : Env P τ X) (S : Sound P τ rc) {f : FuncId} {args : List AV} {us : List Value} (h : callA P rc f args s = .val v s') (hS : Sim τ ρ s w) (hr : RelL τ ρ args us) :
    (callFunc f ⟨us⟩).run P w = .ok (.enter f ⟨us⟩) w ∧ Calls P f ⟨us⟩ w (RQ τ ρ s w v s') := by
  obtain ⟨fn, c, hf, hc, hl, h⟩ := enterK_eq h (by simp)
  refine ⟨run_callFunc E hf hc _ w, (callsIn_wide (n := 0)).1 (callsIn_of_wp_marks hf hc trivial ?_)⟩
  have hA := enter_act hr hl
  have hi : isC (rc (.code c false ⟨envOf args 0 .lf, fn.ntmps, []⟩ s)) := by
    cases hx : rc (.code c false ⟨envOf args 0 .lf, fn.ntmps, []⟩ s) <;> rw [hx] at h <;> first | (cases h; done) | trivial
  refine wpIn_mono (S.code (rd := false) .wide (fun _ => rfl) hS hA hi) fun e A' w' hq => ?_
  cases hx : rc (.code c false ⟨envOf args 0 .lf, fn.ntmps, []⟩ s) with
  | nrm a1 s1 =>
    rw [hx] at hq h
    cases e <;> first | exact hq.elim | skip
    obtain ⟨ρ', hS', hL, hA'⟩ := hq
    exact leave_run S _ _ h hS' hA'.env hA'.df hL
  | ret a1 s1 =>
    rw [hx] at hq h
    cases e <;> first | exact hq.elim | skip
    obtain ⟨ρ', hS', hL, hA'⟩ := hq
    exact leave_run S _ _ h hS' hA'.env hA'.df hL
  | exit i a1 s1 => rw [hx] at h; cases h
  | bad => rw [hx] at h; cases h
  | val v s1 => rw [hx] at h; cases h

/-! ### A round -/
theorem setPs_run : ∀ (ts : List Tmp) (vs : List AV) (us : List Value) {e e' : PT AV} {nt : Nat} {tmps : Array Value}, setPs ts vs e nt = some e' → RelL τ ρ vs us → EnvRel τ ρ e nt tmps →
    us.length = ts.length ∧ EnvRel τ ρ e' nt ((ts.zip us).foldl (fun tmps p => tmps.setIfInBounds p.1 p.2) tmps) := by
  intro ts
  induction ts with
  | nil =>
    intro vs us e e' nt tmps h hr hE
    cases vs with
    | nil => cases hr; cases h; exact ⟨rfl, hE⟩
    | cons => cases h
  | cons t ts ih =>
    intro vs us e e' nt tmps h hr hE
    cases vs with
    | nil => cases h
    | cons v vs =>
      cases hr with | cons h1 hr =>
      rename_i u us
      have h : (match Nat.ble (Nat.succ t) nt with
        | true => setPs ts vs (e.set t v) nt
        | false => none) = some e' := h
      split at h
      · rename_i hb
        rw [natBle_eq, decide_eq_true_eq] at hb
        obtain ⟨i1, i2⟩ := ih vs us h hr (env_put hE (Nat.lt_of_succ_le hb) h1)
        exact ⟨by simp [i1], i2⟩
      · cases h
theorem round_ok (S : Sound P τ rc) {i : Nat} {args : List AV} {us : List Value} {pl : Pl} (h : roundA rc i args s = .val v s') (hS : Sim τ ρ s w) (hp : ρ i = some pl) (hr : RelL τ ρ args us) :
    ∃ f T asg body, (Instr.yield pl.b ⟨us⟩).run P w = .ok (.round pl.b f T asg body) w ∧ RoundIn .wide 0 P pl.b f T asg body w (RQ τ ρ s w v s') := by
  unfold roundA at h
  split at h <;> first | (cases h; done) | skip
  rename_i L hL
  split at h <;> first | (cases h; done) | skip
  rename_i e hset
  split at h <;> first | (cases h; done) | skip
  rename_i a1 s1 hasg
  split at h <;> first | (cases h; done) | skip
  rename_i L1 hL1
  split at h <;> first | (cases h; done) | skip
  rename_i hst
  have hi := hS.lt hp
  obtain ⟨pl', M, hp', r⟩ := loopObj hS hL
  rw [hp] at hp'; cases hp'
  obtain ⟨hlen, hE⟩ := setPs_run _ _ _ hset hr r.env
  have hsz : (⟨us⟩ : Array Value).size = M.params.size := by rw [r.ps]; simpa using hlen
  have hy := run_yield (P := P) (args := ⟨us⟩) r.blk hsz
  rw [r.asg, r.body] at hy
  refine ⟨_, _, _, _, hy, roundIn_of_wpIn trivial ?_⟩
  have hT : (M.params.zip ⟨us⟩).foldl (fun tmps x => match x with | (t, a) => tmps.setIfInBounds t a) M.tmps = (L.ps.toList.zip us).foldl (fun tmps p => tmps.setIfInBounds p.1 p.2) M.tmps := by
    rw [← Array.foldl_toList, Array.toList_zip, r.ps]
  have hA : ActRel τ ρ ⟨e, L.nt, []⟩ { tmps := (M.params.zip ⟨us⟩).foldl (fun tmps x => match x with | (t, a) => tmps.setIfInBounds t a) M.tmps, defers := [] } := ⟨by rw [hT]; exact hE, .nil⟩
  have hc := S.code (m := 0) (rd := true) (.round pl.b) (fun h => by cases h) hS hA (c := L.asg) (by rw [hasg]; trivial)
  rw [hasg] at hc
  refine wpIn_mono hc fun ex A1 w1 hq => ?_
  cases ex <;> first | exact hq.elim | skip
  obtain ⟨ρ1, hS1, hL1', hA1⟩ := hq
  have hp1 : ρ1 i = some pl := by rw [hL1'.keep i hi]; exact hp
  obtain ⟨pl1, M1, hp1', r1⟩ := loopObj hS1 hL1
  rw [hp1] at hp1'; cases hp1'
  obtain ⟨a2, b2⟩ := sim_setLoop (L' := { L1 with st := .busy }) (M' := { M1 with state := .busy }) hS1 hp1 hL1 r1 rfl r1.pend ⟨rfl, rfl, rfl, rfl, rfl, rfl⟩ ⟨rfl, rfl, rfl, rfl, rfl⟩
  refine ⟨_, run_beginRound r1.blk (by rw [r1.st]; exact hst), ?_⟩
  have fin : ∀ {b : Bool} {st : LoopState} {pd : Option Code} {a2' : ActA} {s2 : St} {A2 : Act} {w2 : World}, roundEnd i b st pd s2 = .val v s' → b = pd.isNone → st = (if pd.isNone then .ready else .done) →
      Out τ ρ1 (s1.setOb i (.loop { L1 with st := .busy })) (w1.putObj pl.b (.loop { M1 with state := .busy })) a2' s2 A2 w2 → ∃ u w3, (Instr.endRound pl.b pd).run P w2 = .ok u w3 ∧ RQ τ ρ s w v s' (.returned u) w3 := by
    intro b st pd a2' s2 A2 w2 he hb hstt ho
    obtain ⟨ρ2, hS2, hL2, _⟩ := ho
    have hi1 : i < (s1.setOb i (.loop { L1 with st := .busy })).nx := by
      rw [nx_setOb]; exact hS1.lt hp1
    have hp2 : ρ2 i = some pl := by rw [hL2.keep i hi1]; exact hp1
    unfold roundEnd at he
    split at he <;> first | (cases he; done) | skip
    rename_i L2 hL2'
    cases he
    obtain ⟨pl2, M2, hp2', r2⟩ := loopObj hS2 hL2'
    rw [hp2] at hp2'; cases hp2'
    obtain ⟨a3, b3⟩ := sim_setLoop (L' := { L2 with st := st, pend := pd }) (M' := { M2 with state := if pd.isNone then .ready else .done, pending := pd }) hS2 hp2 hL2' r2 hstt.symm rfl ⟨rfl, rfl, rfl, rfl, rfl, rfl⟩ ⟨rfl, rfl, rfl, rfl, rfl⟩
    refine ⟨_, _, run_endRound pd r2.blk, _, ρ2, rfl, ?_, a3, ((hL1'.trans b2).trans hL2).trans b3⟩
    rw [hb]; exact .bool _
  have hi2 : isC (rc (.code L.body true a1 (s1.setOb i (.loop { L1 with st := .busy })))) := by
    cases hx : rc (.code L.body true a1 (s1.setOb i (.loop { L1 with st := .busy }))) <;> rw [hx] at h <;> first | (cases h; done) | trivial
  refine wpIn_mono (S.code (m := 0) (rd := true) (.round pl.b) (fun h => by cases h) a2 hA1 hi2) fun ex A2 w2 hq => ?_
  cases hx : rc (.code L.body true a1 (s1.setOb i (.loop { L1 with st := .busy }))) with
  | nrm a2' s2 =>
    rw [hx] at hq h
    cases ex <;> first | exact hq.elim | skip
    exact fin h rfl rfl hq
  | ret a2' s2 =>
    rw [hx] at hq h
    cases ex <;> first | exact hq.elim | skip
    exact fin h rfl rfl hq
  | exit id a2' s2 =>
    rw [hx] at hq h
    cases ex <;> first | exact hq.elim | skip
    obtain ⟨rfl, hq⟩ := hq
    exact fin h rfl rfl hq
  | bad => rw [hx] at h; cases h
  | val v s1 => rw [hx] at h; cases h
end Go.Hb

/-
  Deferred calls; the step of the evaluator; its soundness.
-/
namespace Go.Hb
open Go Go.Lib
variable {P : Program} {τ : Nat → Value} {X : FuncId → Option Ext} {rc : Task → Res}
variable {ρ : Ro} {s s' : St} {w : World} {a : ActA} {A : Act} {n : Nat} {v : AV}

theorem isRecover_eq {o : Op} (h : isRecover o = true) : ∃ c, o = .call c ∧ c.callee = .builtin .recover := by
  unfold isRecover at h
  split at h
  · rename_i c
    split at h
    · exact ⟨c, rfl, by assumption⟩
    · cases h
  · cases h
theorem dreg_ok (E : Env P τ X) {cs : List Frame} (hcs : recoverD cs = none) (ops : Array Oper) : ∀ (l : List Oper) (i : Nat) {ρ : Ro} {s : St} {w : World} {a : ActA} {A : Act} {r : Res} {Q : Exit → Act → List Frame → World → Prop},
    ops.toList.drop i = l → Sim τ ρ s w → ActRel τ ρ a A → dreg P ops.toList l a s = r → r ≠ .bad → (∀ a' s' A' w', r = .nrm a' s' → Out τ ρ s w a' s' A' w' → Q .normal A' cs w') →
    wpOpsSIn .wide n P ops Q (List.range' i l.length) A cs w := by
  intro l
  induction l with
  | nil =>
    intro i ρ s w a A r Q _ hS hA h _ hQ
    exact hQ a s A w h.symm ⟨ρ, hS, .refl, hA⟩
  | cons o l ih =>
    intro i ρ s w a A r Q hl hS hA h hr hQ
    have ho : ops[i]? = some o := by
      rw [← Array.getElem?_toList]
      have := congrArg (·[0]?) hl
      simpa using this
    have hl' : ops.toList.drop (i + 1) = l := by
      have := congrArg List.tail hl
      simpa using this
    show wpOpsSIn .wide n P ops Q (i :: List.range' (i + 1) l.length) A cs w
    simp only [wpOpsSIn, ho, wanted_eq E.nb hA.env]
    refine ⟨fun _ _ => trivial, ?_⟩
    have next : ∀ a' s' A' w', dreg P ops.toList l a' s' = r → Out τ ρ s w a' s' A' w' → wpOpsSIn .wide n P ops Q (List.range' (i + 1) l.length) A' cs w' := by
      intro a' s' A' w' hk ⟨ρ', hS', hL, hA'⟩
      exact ih (i + 1) hl' hS' hA' hk hr fun a2 s2 A2 w2 he ho => hQ a2 s2 A2 w2 he (Out.of hL ho)
    unfold dreg at h
    cases hw : wantedA ops.toList a.env o with
    | false =>
      simp only [hw] at h ⊢
      rw [if_neg (by simp)]
      obtain ⟨a', hk, hA', _, _⟩ := putK_eq h hr undef_rel hA
      exact next a' s _ w hk ⟨ρ, hS, .refl, hA'⟩
    | true =>
      simp only [hw] at h ⊢
      rw [if_pos trivial]
      cases hrec : isRecover o.op with
      | true =>
        simp only [hrec] at h
        obtain ⟨c, hop, hc⟩ := isRecover_eq hrec
        have hrun : (execOp A.eval o).run P w = .ok .recover w := by
          simp only [execOp, hop, resolve, hc, Sem.run_bind, Sem.run_pure, Result.andThen_ok, invoke, builtin]
        rw [hrun]
        simp only [hcs]
        obtain ⟨a', hk, hA', _, _⟩ := putK_eq h hr (u := .nilIface) .nif hA
        exact next a' s _ w hk ⟨ρ, hS, .refl, hA'⟩
      | false =>
        simp only [hrec] at h
        split at h
        · rename_i v s1 hx
          obtain ⟨u, w', ρ', hrun, hrel, hS', hL⟩ := xop_val (ctx_of E hS hA) hx
          rcases hrun with hrun | ⟨hrun, hu⟩
          · rw [hrun]
            obtain ⟨a', hk, hA', _, _⟩ := putK_eq h hr hrel (hA.mono (hL.le hS))
            exact next a' _ _ w' hk ⟨ρ', hS', hL, hA'⟩
          · rw [hrun]
            rw [hu] at hrel
            obtain ⟨a', hk, hA', _, _⟩ := putK_eq h hr hrel (hA.mono (hL.le hS))
            exact next a' _ _ w' hk ⟨ρ', hS', hL, hA'⟩
        · exact absurd h.symm hr
theorem dcode_ok (E : Env P τ X) (S : Sound P τ rc) {cs : List Frame} (hcs : recoverD cs = none) (hS : Sim τ ρ s w) (hA : ActRel τ ρ a A) {c : Code} (hi : isC (dcode P rc c a s)) :
    c.wpSIn .wide n P (fun e A' cs' w' => cs' = cs ∧ CQ τ ρ s w (dcode P rc c a s) e A' w') A cs w := by
  have plain : ∀ c : Code, isC (rc (.code c true a s)) → c.wpSIn .wide n P (fun e A' cs' w' => cs' = cs ∧ CQ τ ρ s w (rc (.code c true a s)) e A' w') A cs w := fun c hi =>
    wpSIn_of_wpIn rfl (wpIn_mono (S.code .wide (fun h => by cases h) hS hA hi) fun e A' w' hq => ⟨rfl, hq⟩)
  cases c with
  | seq x y =>
    have hi : isC (nrmK (fun a' s' => rc (.dcode y a' s')) (rc (.dcode x a s))) := hi
    refine wpSIn_seq ?_
    have hx := S.dcode (m := n) hcs hS hA (nrmK_isC hi)
    intro b k hb hr hF hroom
    obtain ⟨e, a', cs', w', hlen, ⟨rfl, hq⟩, harr⟩ := hx b k hb hr hF hroom
    refine ⟨e, a', cs', w', hlen, ?_, harr⟩
    have := CQ_then (N := fun A' w' => y.wpSIn .wide n P (fun e A' cs'' w' => cs'' = cs' ∧ CQ τ ρ s w (nrmK (fun a' s' => rc (.dcode y a' s')) (rc (.dcode x a s))) e A' w') A' cs' w') hi hq fun a2 s2 he ho => by
      obtain ⟨ρ', hS', hL, hA'⟩ := ho
      have hi2 := hi
      rw [he] at hi2 ⊢
      intro b k hb hr hF hroom
      obtain ⟨e, a', cs'', w', hlen, ⟨rfl, hq⟩, harr⟩ := S.dcode (m := n) hcs hS' hA' hi2 b k hb hr hF hroom
      exact ⟨e, a', cs'', w', hlen, ⟨rfl, CQ.of hL hq⟩, harr⟩
    cases e <;> first | exact this | exact ⟨rfl, this⟩
  | cond c x y =>
    have hi : isC (match opd a.env c with
      | some (.bool true) => rc (.dcode x a s)
      | some (.bool false) => rc (.dcode y a s)
      | _ => .bad) := hi
    show (Code.cond c x y).wpSIn .wide n P (fun e A' cs' w' => cs' = cs ∧ CQ τ ρ s w (match opd a.env c with
      | some (.bool true) => rc (.dcode x a s)
      | some (.bool false) => rc (.dcode y a s)
      | _ => .bad) e A' w') A cs w
    split at hi
    · rename_i ho
      have hr := opd_rel hA.env hS.glob ho
      generalize hx : A.eval c = z at hr
      cases hr
      exact wpSIn_cond hx (S.dcode hcs hS hA hi)
    · rename_i ho
      have hr := opd_rel hA.env hS.glob ho
      generalize hx : A.eval c = z at hr
      cases hr
      exact wpSIn_cond hx (S.dcode hcs hS hA hi)
    · exact hi.elim
  | region id ops draw =>
    cases draw with
    | true => exact plain _ hi
    | false =>
      have hi : isC (match anyRec ops.toList with
        | true => dreg P ops.toList ops.toList a s
        | false => rc (.code (.region id ops false) true a s)) := hi
      show (Code.region id ops false).wpSIn .wide n P (fun e A' cs' w' => cs' = cs ∧ CQ τ ρ s w (match anyRec ops.toList with
        | true => dreg P ops.toList ops.toList a s
        | false => rc (.code (.region id ops false) true a s)) e A' w') A cs w
      split at hi
      · generalize hr : dreg P ops.toList ops.toList a s = r at hi ⊢
        refine wpSIn_region ?_
        have := dreg_ok (n := n) E hcs ops ops.toList 0 (Q := fun e A' cs' w' => cs' = cs ∧ CQ τ ρ s w r e A' w') rfl hS hA hr (fun e => by subst e; exact hi.elim) (fun a' s' A' w' e ho => ⟨rfl, by subst e; exact ho⟩)
        rw [List.range_eq_range']
        simpa using this
      · exact plain _ hi
  | _ => exact plain _ hi
theorem dcall_ok (E : Env P τ X) (S : Sound P τ rc) {f : FuncId} {args : List AV} {us : List Value} (h : dcallA P rc f args s = .val v s') (hS : Sim τ ρ s w) (hr : RelL τ ρ args us) :
    (callFunc f ⟨us⟩).run P w = .ok (.enter f ⟨us⟩) w ∧ ∀ m, CallsDIn .wide m P f ⟨us⟩ .returning w (fun e u' w' => u' = .returning ∧ RQ τ ρ s w v s' e w') := by
  obtain ⟨fn, c, hf, hc, hl, h⟩ := enterK_eq h (by simp)
  refine ⟨run_callFunc E hf hc _ w, fun m => callsDIn_of_wpSIn hf hc trivial fun c₀ cs hmode => ?_⟩
  have hA := enter_act hr hl
  have hcs : recoverD (c₀ :: cs) = none := by simp [recoverD, hmode]
  have hi : isC (rc (.dcode c ⟨envOf args 0 .lf, fn.ntmps, []⟩ s)) := by
    cases hx : rc (.dcode c ⟨envOf args 0 .lf, fn.ntmps, []⟩ s) <;> rw [hx] at h <;> first | (cases h; done) | trivial
  have hfr : ({ c₀ with mode := .returning } : Frame) = c₀ := by rw [← hmode]
  have fin : ∀ {a1 : ActA} {s1 : St} {A' : Act} {w' : World}, (match a1.df with
      | [] => leave P rc fn.results.toList a1.env [] s1
      | _ => .bad) = .val v s' → Out τ ρ s w a1 s1 A' w' → A'.defers = [] ∧ ∃ u', c₀ :: cs = { c₀ with mode := u' } :: cs ∧ ∃ y, (results fn A'.tmps).run P w' = .ok y w' ∧ (u' = .returning ∧ RQ τ ρ s w v s' (.returned y) w') := by
    intro a1 s1 A' w' h ⟨ρ', hS', hL, hA'⟩
    have hdf := hA'.df
    split at h
    · rename_i hd
      rw [hd] at hdf
      have hde : A'.defers = [] := by
        generalize A'.defers = m at hdf
        cases hdf; rfl
      unfold leave at h
      split at h <;> first | (cases h; done) | skip
      rename_i vs hvs
      cases h
      obtain ⟨u, hu, hru⟩ := results_run (P := P) hS' hA'.env hvs
      exact ⟨hde, .returning, by rw [hfr], u, hu, rfl, u, ρ', rfl, hru, hS', hL⟩
    · cases h
  intro b k hb hro hF hroom
  obtain ⟨e, A', cs', w', hlen, ⟨rfl, hq⟩, harr⟩ := S.dcode (m := m) hcs hS hA hi b k hb hro hF hroom
  refine ⟨e, A', _, w', hlen, ?_, harr⟩
  cases hx : rc (.dcode c ⟨envOf args 0 .lf, fn.ntmps, []⟩ s) with
  | nrm a1 s1 =>
    rw [hx] at hq h
    cases e <;> first | exact hq.elim | skip
    exact fin h hq
  | ret a1 s1 =>
    rw [hx] at hq h
    cases e <;> first | exact hq.elim | skip
    exact fin h hq
  | exit i a1 s1 => rw [hx] at h; cases h
  | bad => rw [hx] at h; cases h
  | val v s1 => rw [hx] at h; cases h

/-! ### The evaluator -/
theorem step_ok (E : Env P τ X) (S : Sound P τ rc) (D : DrawOk P τ X rc) : Sound P τ (step P X rc) where
  code := fun hF hrd hS hA hi => code_ok E S D hF hrd hS hA hi
  loop := fun hF hrd hS hA hi => loop_ok (X := X) S hF hrd hS hA hi
  call := fun h hS hr => call_ok E S h hS hr
  round := fun h hS hp hr => round_ok S h hS hp hr
  dcall := fun h hS hr => dcall_ok E S h hS hr
  dcode := fun hcs hS hA hi => dcode_ok E S hcs hS hA hi
theorem bad_ok : Sound P τ (fun _ => .bad) where
  code := fun _ _ _ _ hi => hi.elim
  loop := fun _ _ _ _ hi => hi.elim
  call := fun h => by cases h
  round := fun h => by cases h
  dcall := fun h => by cases h
  dcode := fun _ _ _ hi => hi.elim
theorem ev_ok (E : Env P τ X) (D : ∀ rc, Sound P τ rc → DrawOk P τ X rc) : ∀ n, Sound P τ (ev P X n) := by
  intro n
  induction n with
  | zero => exact bad_ok
  | succ n ih => exact step_ok E ih (D _ ih)
end Go.Hb
