/-
  The evaluator is sound; closed runs in parts; the first heap.
-/
import Derived.Test.YtnonpemcndfbkaaGreatDoorHb
import Derived.Lib.Bytealg
import Derived.Lib.MakeNoZero
import Derived.Below
import Derived.OpenShut
import Derived.FnData
import Derived.HandedShaped
import Derived.Handed
/-
  An operation looks at its operands alone; what is quiet gives the state back.
-/
namespace Go.Hb
open Go Go.Lib
variable {P : Program} {e e' : PT AV} {s s' : St}

theorem opds_congr : ∀ {l : List Operand}, (∀ x ∈ l, opd e x = opd e' x) → opds e l = opds e' l := by
  intro l
  induction l with
  | nil => intro _; rfl
  | cons x l ih =>
    intro h
    show oB (opd e x) (fun v => oB (opds e l) fun vs => some (v :: vs)) = oB (opd e' x) (fun v => oB (opds e' l) fun vs => some (v :: vs))
    rw [h x List.mem_cons_self, ih fun y hy => h y (List.mem_cons_of_mem _ hy)]
theorem opdP_congr : ∀ {l : List (Nat × Operand)}, (∀ x ∈ l.map (·.2), opd e x = opd e' x) → opdP e l = opdP e' l := by
  intro l
  induction l with
  | nil => intro _; rfl
  | cons x l ih =>
    intro h
    show oB (opd e x.2) (fun v => oB (opdP e l) fun vs => some ((x.1, v) :: vs)) = oB (opd e' x.2) (fun v => oB (opdP e' l) fun vs => some ((x.1, v) :: vs))
    rw [h x.2 (by simp), ih fun y hy => h y (by simp at hy ⊢; exact .inr hy)]
theorem opdO_congr {x : Option Operand} (h : ∀ y ∈ x, opd e y = opd e' y) : opdO e x = opdO e' x := by
  cases x with
  | none => rfl
  | some y => show oB (opd e y) _ = oB (opd e' y) _; rw [h y rfl]
theorem opd_get {x : Operand} (h : ∀ t, x = .tmp t → e.get t = e'.get t) : opd e x = opd e' x := by
  cases x with
  | tmp t =>
    show Option.rec (motive := fun _ => Option AV) (some undefA) (fun v => some v) (e.get t) = Option.rec (motive := fun _ => Option AV) (some undefA) (fun v => some v) (e'.get t)
    rw [h t rfl]
  | _ => rfl
theorem allocOb_congr {o : Op} (h : ∀ x ∈ o.operands, opd e x = opd e' x) : allocOb P e o = allocOb P e' o := by
  cases o with
  | box t x => simp only [allocOb, h x (by simp [Op.operands])]
  | buildSlice t n ps =>
    have : opdP e ps.toList = opdP e' ps.toList := opdP_congr fun x hx => h x (by simpa [Op.operands] using hx)
    simp only [allocOb, this]
  | makeMap t r =>
    cases r with
    | none => rfl
    | some y => simp only [allocOb, h y (by simp [Op.operands])]
  | makeSlice t l c => simp only [allocOb, h l (by simp [Op.operands]), h c (by simp [Op.operands])]
  | convert a b x => simp only [allocOb, h x (by simp [Op.operands])]
  | _ => rfl
theorem xop_congr {o : Op} (h : ∀ x ∈ o.operands, opd e x = opd e' x) : xop P o e s = xop P o e' s := by
  have halloc := allocOb_congr (P := P) h
  cases o with
  | move x => show valO s (opd e x) = valO s (opd e' x); rw [h x (by simp [Op.operands])]
  | assign x => show valO s (opd e x) = valO s (opd e' x); rw [h x (by simp [Op.operands])]
  | pick c a b => show xPick c a b e s = xPick c a b e' s; simp only [xPick, wV, h c (by simp [Op.operands]), h a (by simp [Op.operands]), h b (by simp [Op.operands])]
  | alloc t => rfl
  | box t x => show xAlloc P _ e s = xAlloc P _ e' s; simp only [xAlloc, halloc]
  | buildSlice t n ps => show xAlloc P _ e s = xAlloc P _ e' s; simp only [xAlloc, halloc]
  | makeMap t r => show xAlloc P _ e s = xAlloc P _ e' s; simp only [xAlloc, halloc]
  | makeSlice t l c => show xAlloc P _ e s = xAlloc P _ e' s; simp only [xAlloc, halloc]
  | convert a b x => show xConv P a b x e s = xConv P a b x e' s; simp only [xConv, xAlloc, halloc, wV, h x (by simp [Op.operands])]
  | build t ps =>
    have : opdP e ps.toList = opdP e' ps.toList := opdP_congr fun x hx => h x (by simpa [Op.operands] using hx)
    show xBuild P t ps e s = xBuild P t ps e' s
    simp only [xBuild, this]
  | insert t m k v => show xUpdate P t m k v e s = xUpdate P t m k v e' s; simp only [xUpdate, wV, h m (by simp [Op.operands]), h k (by simp [Op.operands]), h v (by simp [Op.operands])]
  | mapUpdate t m k v => show xUpdate P t m k v e s = xUpdate P t m k v e' s; simp only [xUpdate, wV, h m (by simp [Op.operands]), h k (by simp [Op.operands]), h v (by simp [Op.operands])]
  | load t x => show xLoad P t x e s = xLoad P t x e' s; simp only [xLoad, wV, h x (by simp [Op.operands])]
  | store t x v => show xStore P t x v e s = xStore P t x v e' s; simp only [xStore, wV, h x (by simp [Op.operands]), h v (by simp [Op.operands])]
  | nilCheck x => show xNilCheck x e s = xNilCheck x e' s; simp only [xNilCheck, wV, h x (by simp [Op.operands])]
  | binOp op t x y u => show xBin P op t x y u e s = xBin P op t x y u e' s; simp only [xBin, wV, h x (by simp [Op.operands]), h y (by simp [Op.operands])]
  | unOp op t x => show xUn op t x e s = xUn op t x e' s; simp only [xUn, wV, h x (by simp [Op.operands])]
  | makeInterface t x => show xIface P t x e s = xIface P t x e' s; simp only [xIface, h x (by simp [Op.operands])]
  | makeFunc f a b =>
    have h1 : opds e a.toList = opds e' a.toList := opds_congr fun x hx => h x (by simp [Op.operands]; exact .inl (by simpa using hx))
    have h2 : opds e b.toList = opds e' b.toList := opds_congr fun x hx => h x (by simp [Op.operands]; exact .inr (by simpa using hx))
    show xFunc f a b e s = xFunc f a b e' s
    simp only [xFunc, h1, h2]
  | slice t x lo hi mx =>
    have h1 : opdO e lo = opdO e' lo := opdO_congr fun y hy => h y (by simp only [Option.mem_def] at hy; subst hy; simp [Op.operands])
    have h2 : opdO e hi = opdO e' hi := opdO_congr fun y hy => h y (by simp only [Option.mem_def] at hy; subst hy; simp [Op.operands])
    have h3 : opdO e mx = opdO e' mx := opdO_congr fun y hy => h y (by simp only [Option.mem_def] at hy; subst hy; simp [Op.operands])
    show xSlice P t x lo hi mx e s = xSlice P t x lo hi mx e' s
    simp only [xSlice, h x (by simp [Op.operands]), h1, h2, h3]
  | fieldAddr t x f => show xFieldAddr P t x f e s = xFieldAddr P t x f e' s; simp only [xFieldAddr, wV, h x (by simp [Op.operands])]
  | field t x f => show xField P t x f e s = xField P t x f e' s; simp only [xField, wV, h x (by simp [Op.operands])]
  | indexAddr t x i => show xIndexAddr P t x i e s = xIndexAddr P t x i e' s; simp only [xIndexAddr, wV, h x (by simp [Op.operands]), h i (by simp [Op.operands])]
  | index t x i => show xIndex P t x i e s = xIndex P t x i e' s; simp only [xIndex, wV, h x (by simp [Op.operands]), h i (by simp [Op.operands])]
  | lookup t x i ok => show xLookup P t x i ok e s = xLookup P t x i ok e' s; simp only [xLookup, wV, h x (by simp [Op.operands]), h i (by simp [Op.operands])]
  | typeAssert x a b ok => show xTypeAssert P x a b ok e s = xTypeAssert P x a b ok e' s; simp only [xTypeAssert, wV, h x (by simp [Op.operands])]
  | extract x i => show xExtract x i e s = xExtract x i e' s; simp only [xExtract, wV, h x (by simp [Op.operands])]
  | call c =>
    have h1 : opds e c.args.toList = opds e' c.args.toList := opds_congr fun x hx => h x (by simp [Op.operands, Call.operands]; right; simpa using hx)
    show xCall P c e s = xCall P c e' s
    cases hc : c.callee with
    | value f =>
      have h2 : opd e f = opd e' f := h f (by simp [Op.operands, Call.operands, hc])
      simp only [xCall, hc, h1, wV, h2]
    | _ => simp only [xCall, hc, h1]
  | defer c =>
    have h1 : opds e c.args.toList = opds e' c.args.toList := opds_congr fun x hx => h x (by simp [Op.operands, Call.operands]; right; simpa using hx)
    show xDefer c e s = xDefer c e' s
    cases hc : c.callee with
    | value f =>
      have h2 : opd e f = opd e' f := h f (by simp [Op.operands, Call.operands, hc])
      simp only [xDefer, hc, h1, wV, h2]
    | _ => simp only [xDefer, hc, h1]
  | _ => rfl

/-! ### Quiet operations -/
def SameSt (s : St) : XR → Prop
  | .val _ s' => s' = s
  | _ => True
theorem ss_valO (x : Option AV) : SameSt s (valO s x) := by cases x <;> trivial
theorem ss_wV {x : Operand} {k : AV → XR} (h : ∀ v, SameSt s (k v)) : SameSt s (wV e x k) := by
  unfold wV
  cases opd e x
  · trivial
  · exact h _
theorem ss_kP {f : Nat → Nat → XR} (h : ∀ i o, SameSt s (f i o)) (v : AV) : SameSt s (v.kP .bad f) := by cases v <;> first | trivial | exact h _ _
theorem ss_kB {f : Bool → XR} (h : ∀ b, SameSt s (f b)) (v : AV) : SameSt s (v.kB .bad f) := by cases v <;> first | trivial | exact h _
theorem ss_kT {f : List AV → XR} (h : ∀ b, SameSt s (f b)) (v : AV) : SameSt s (v.kT .bad f) := by cases v <;> first | trivial | exact h _
theorem quiet_same {o : Op} (hk : kindOf P o = .quiet) : SameSt s (xop P o e s) := by
  cases o with
  | alloc t => cases hk
  | box t x => cases hk
  | buildSlice t n ps => cases hk
  | makeMap t r => cases hk
  | makeSlice t l c => cases hk
  | pick c a b =>
    refine ss_wV fun v => ?_
    refine ss_kB (fun b => ?_) v
    cases b <;> exact ss_valO _
  | convert a b x =>
    show SameSt s (xConv P a b x e s)
    unfold kindOf at hk
    unfold xConv
    simp only at hk
    split at hk <;> first | (cases hk; done) | skip
    rename_i h1 h2
    simp only [h1, h2]
    exact ss_wV fun v => ss_valO _
  | nilCheck x =>
    show SameSt s (xNilCheck x e s)
    unfold xNilCheck
    refine ss_wV fun v => ?_
    split <;> trivial
  | typeAssert x a b ok =>
    show SameSt s (xTypeAssert P x a b ok e s)
    unfold xTypeAssert
    refine ss_wV fun v => ?_
    split
    · split
      · exact ss_valO _
      · trivial
    · trivial
  | makeFunc f a b =>
    show SameSt s (xFunc f a b e s)
    unfold xFunc
    split
    · exact ss_valO _
    · trivial
  | call c =>
    show SameSt s (xCall P c e s)
    unfold kindOf at hk
    simp only at hk
    by_cases hb : xCall P c e s = .bad
    · rw [hb]; trivial
    · obtain ⟨args, ha, ⟨b, hb', h⟩ | ⟨_, _, _, _, _, _, h⟩ | ⟨_, _, _, _, h⟩⟩ := xCall_eq hb rfl
      · rw [← h]
        rw [hb'] at hk
        unfold xBuiltin
        split <;> first | (cases hk; done) | exact ss_valO _ | trivial | (split <;> first | exact ss_valO _ | trivial)
      · rw [h]; trivial
      · rw [h]; trivial
  | _ => first
    | (cases hk; done)
    | trivial
    | exact ss_valO _
    | exact ss_wV fun _ => ss_valO _
    | exact ss_wV fun _ => ss_wV fun _ => ss_valO _
    | exact ss_wV fun v => ss_kP (fun _ _ => ss_valO _) v
    | exact ss_wV fun v => ss_kT (fun _ => ss_valO _) v
theorem quiet_val {o : Op} (hk : kindOf P o = .quiet) {v : AV} (h : xop P o e s = .val v s') : s' = s := by
  have := quiet_same (P := P) (e := e) (s := s) hk
  rw [h] at this
  exact this
theorem alloc_bad {o : Op} (hk : kindOf P o = .alloc) (cl : Call) : o ≠ .defer cl ∧ o ≠ .call cl := by
  refine ⟨fun h => ?_, fun h => ?_⟩
  · subst h; cases hk
  · subst h
    unfold kindOf at hk
    simp only at hk
    split at hk <;> cases hk

/-! ### Equal values -/
mutual
theorem eqAV_eq : ∀ (x y : AV), eqAV x y = true → x = y
  | .bool a, y, h => by cases y <;> first | (cases h; done) | (simp [eqAV] at h; rw [h])
  | .int k a, y, h => by cases y <;> first | (cases h; done) | (simp [eqAV, eqK_eq] at h; rw [h.1, h.2])
  | .str a, y, h => by cases y <;> first | (cases h; done) | (simp [eqAV] at h; rw [h])
  | .nptr, y, h => by cases y <;> first | (cases h; done) | rfl
  | .ptr i o, y, h => by cases y <;> first | (cases h; done) | (simp [eqAV] at h; rw [h.1, h.2])
  | .nsl, y, h => by cases y <;> first | (cases h; done) | rfl
  | .sl i o n c z, y, h => by
    cases y <;> first | (cases h; done) | skip
    rename_i j p m d u
    cases c <;> cases d <;> simp [eqAV] at h <;> simp [h]
  | .nmap, y, h => by cases y <;> first | (cases h; done) | rfl
  | .map i, y, h => by cases y <;> first | (cases h; done) | (simp [eqAV] at h; rw [h])
  | .nfn, y, h => by cases y <;> first | (cases h; done) | rfl
  | .fn f a b, y, h => by
    cases y <;> first | (cases h; done) | skip
    rename_i g c d
    simp [eqAV] at h
    rw [h.1, eqAVs_eq a c h.2.1, eqAVs_eq b d h.2.2]
  | .yld i, y, h => by cases y <;> first | (cases h; done) | (simp [eqAV] at h; rw [h])
  | .nif, y, h => by cases y <;> first | (cases h; done) | rfl
  | .ifc t v, y, h => by
    cases y <;> first | (cases h; done) | skip
    rename_i u x
    simp [eqAV] at h
    rw [h.1, eqAV_eq v x h.2]
  | .agg a, y, h => by
    cases y <;> first | (cases h; done) | skip
    rename_i b
    rw [eqAVs_eq a b (by simpa [eqAV] using h)]
  | .tup a, y, h => by
    cases y <;> first | (cases h; done) | skip
    rename_i b
    rw [eqAVs_eq a b (by simpa [eqAV] using h)]
  | .sym n, y, h => by cases y <;> first | (cases h; done) | (simp [eqAV] at h; rw [h])
theorem eqAVs_eq : ∀ (x y : List AV), eqAVs x y = true → x = y
  | [], y, h => by cases y <;> first | (cases h; done) | rfl
  | a :: x, y, h => by
    cases y with
    | nil => cases h
    | cons b y =>
      simp [eqAVs] at h
      rw [eqAV_eq a b h.1, eqAVs_eq x y h.2]
end
end Go.Hb

/-
  One operation of a region that draws its order: what lies besides goes on; a new object at a number that is kept for it.
-/
namespace Go.Hb
open Go Go.Lib
variable {P : Program} {τ : Nat → Value} {X : FuncId → Option Ext} {rc : Task → Res}
variable {ρ : Ro} {s s' : St} {w w' : World} {a : ActA} {A : Act} {F : Fence} {n : Nat} {v : AV}

inductive XRun (X : FuncId → Option Ext) (rc : Task → Res) : XR → AV → St → Prop
  | val {v : AV} {s' : St} : XRun X rc (.val v s') v s'
  | call {f : FuncId} {args : List AV} {s s' : St} {v : AV} (hX : X f = none) (h : rc (.call f args s) = .val v s') : XRun X rc (.call f args s) v s'
  | ext {f : FuncId} {args : List AV} {s s' : St} {v : AV} {x : Ext} (hX : X f = some x) (h : extA x args s = some (v, s')) : XRun X rc (.call f args s) v s'
  | round {i : Nat} {args : List AV} {s s' : St} {v : AV} (h : rc (.round i args s) = .val v s') : XRun X rc (.round i args s) v s'
theorem runK_eq {β : Type} {bad r : β} {k : AV → St → β} {x : XR} (h : runK X rc bad k x = r) (hr : r ≠ bad) : ∃ v s', XRun X rc x v s' ∧ k v s' = r := by
  cases x with
  | bad => exact absurd h.symm hr
  | val v s' => exact ⟨v, s', .val, h⟩
  | call f args s' =>
    have h : Option.rec (motive := fun _ => β) (resK bad k (rc (.call f args s'))) (fun x => Option.rec (motive := fun _ => β) bad (fun p => k p.1 p.2) (extA x args s')) (X f) = r := h
    cases hX : X f with
    | none =>
      rw [hX] at h
      obtain ⟨v, s'', hv, hk⟩ := resK_eq h hr
      exact ⟨v, s'', .call hX hv, hk⟩
    | some x =>
      rw [hX] at h
      obtain ⟨p, hp, hk⟩ := optRec_res h hr
      exact ⟨p.1, p.2, .ext hX hp, hk⟩
  | round i args s' =>
    obtain ⟨v, s'', hv, hk⟩ := resK_eq (show resK bad k (rc (.round i args s')) = r from h) hr
    exact ⟨v, s'', .round hv, hk⟩
  | dfr f args s' => exact absurd h.symm hr
theorem op_core (E : Env P τ X) (S : Sound P τ rc) (hF : FW F) {e : PT AV} {nt : Nat} (c : Ctx τ ρ e nt s w A) {o : Oper} (h : XRun X rc (xop P o.op e s) v s') {K : Act → World → Prop} {Q : Exit → Act → World → Prop}
    (hK : ∀ u ρ' w', Rel τ ρ' v u → Sim τ ρ' s' w' → Lat ρ s w ρ' s' w' → K (A.put o.dst u) w') : o.wpIn F n P A w K Q := by
  refine ⟨fun f _ => hF.fn f, ?_⟩
  have hS := c.sim
  generalize hx : xop P o.op e s = x at h
  cases h with
  | val =>
    have hnd : ∀ c, o.op ≠ .defer c := fun c hc => by rw [hc] at hx; exact xDefer_noval c hx
    rw [Oper.semAt_eq _ _ _ hnd]
    obtain ⟨u, w', ρ', hrun, hrel, hS', hL⟩ := xop_val c hx
    rcases hrun with hrun | ⟨hrun, hu⟩
    · rw [hrun, Oper.uponIn_value]; exact hK _ _ _ hrel hS' hL
    · rw [hrun, Oper.uponIn_skip, ← hu]; exact hK _ _ _ hrel hS' hL
  | call hX hv =>
    obtain ⟨cl, ho, hc⟩ := xop_call hx
    have hnd : ∀ c, o.op ≠ .defer c := fun c hc => by rw [ho] at hc; cases hc
    rw [Oper.semAt_eq _ _ _ hnd]
    obtain ⟨rfl, us, hus, hrun⟩ := xCall_call c ho hc
    rw [hrun]
    obtain ⟨h1, h2⟩ := S.call hv hS hus
    rw [h1, Oper.uponIn_enter]
    refine ⟨hF.depth, CallsIn.mono (hF.calls h2) fun e w'' he => ?_⟩
    obtain ⟨u, ρ', rfl, hrel, hS', hL⟩ := he
    exact hK _ _ _ hrel hS' hL
  | ext hX hp =>
    obtain ⟨cl, ho, hc⟩ := xop_call hx
    have hnd : ∀ c, o.op ≠ .defer c := fun c hc => by rw [ho] at hc; cases hc
    rw [Oper.semAt_eq _ _ _ hnd]
    obtain ⟨rfl, us, hus, hrun⟩ := xCall_call c ho hc
    rw [hrun]
    obtain ⟨u, w', ρ', hrun2, hrel, hS', hL⟩ := E.ext _ _ hX hS hus hp
    rw [hrun2, Oper.uponIn_value]
    exact hK _ _ _ hrel hS' hL
  | round hv =>
    obtain ⟨cl, ho, hc⟩ := xop_round hx
    have hnd : ∀ c, o.op ≠ .defer c := fun c hc => by rw [ho] at hc; cases hc
    rw [Oper.semAt_eq _ _ _ hnd]
    obtain ⟨rfl, us, pl, hus, hpl, hrun⟩ := xCall_round c ho hc
    rw [hrun]
    obtain ⟨f, T, asg, body, h1, h2⟩ := S.round hv hS hpl hus
    rw [h1, Oper.uponIn_round]
    refine ⟨hF.depth, RoundIn.mono (hF.rounds h2) fun e w'' he => ?_⟩
    obtain ⟨u, ρ', rfl, hrel, hS', hL⟩ := he
    exact hK _ _ _ hrel hS' hL

/-- What lies besides goes on. -/
theorem extend {ρ' : Ro} {sB sS s' sR : St} (hB : Sim τ ρ sB w) (hS' : Sim τ ρ' s' w') (hL : Lat ρ sS w ρ' s' w') (hsub : ∀ i o, sS.h.get i = some o → sB.h.get i = some o)
    (hrest : ∀ i o, sB.h.get i = some o → sS.h.get i = none → twinOf (some o) = none) (hnx : sS.nx = sB.nx)
    (hR : ∀ i o, sR.h.get i = some o → s'.h.get i = some o ∨ (sB.h.get i = some o ∧ sS.h.get i = none)) (hRnx : sR.nx = s'.nx) : (Sim τ ρ' sR w' ∧ Lat ρ sB w ρ' sR w') ∧ ∀ i o, sB.h.get i = some o → sS.h.get i = none → s'.h.get i = none := by
  have hSm : Sim τ ρ sS w := (sim_less hB hsub hnx).1
  have hle := hL.le hSm
  -- what lies besides, and where
  have hpl : ∀ i o, sB.h.get i = some o → sS.h.get i = none → ∃ p, ρ i = some p ∧ ρ' i = some p ∧ ObRel τ ρ w p o ∧ ∀ j oj q, sS.h.get j = some oj → ρ j = some q → q.b ≠ p.b := by
    intro i o hi hn
    obtain ⟨p, hp, r⟩ := hB.ob i o hi
    refine ⟨p, hp, hle _ _ hp, r, fun j oj q hj hq e => ?_⟩
    have hji : i ≠ j := fun e => by subst e; rw [hn] at hj; cases hj
    have := (hB.sep i j o oj p q hji hi (hsub _ _ hj) hp hq e.symm).1
    rw [hrest i o hi hn] at this; cases this
  -- it shares no block with what has come
  have hap : ∀ i o j oj p q, sB.h.get i = some o → sS.h.get i = none → s'.h.get j = some oj → ρ' i = some p → ρ' j = some q → p.b ≠ q.b := by
    intro i o j oj p q hi hn hj hp hq e
    obtain ⟨p', h1, h2, r, h3⟩ := hpl i o hi hn
    rw [hp] at h2; cases h2
    rcases hL.fresh j oj q hj hq with ⟨j0, o0, q0, hj0, hq0, hb0, _⟩ | hbig
    · exact h3 j0 o0 q0 hj0 hq0 (hb0.trans e.symm)
    · have := r.lt; omega
  refine ⟨⟨⟨fun i o hi => ?_, ?_, fun i hi => hS'.top i (by omega), hS'.glob⟩, ⟨?_, ?_, ?_, ?_, hL.size, hL.tape, hL.os, hL.out⟩⟩, ?_⟩
  rotate_left 6
  · intro i o hi hn
    cases hg : s'.h.get i with
    | none => rfl
    | some oj =>
      obtain ⟨p, h1, h2, _, _⟩ := hpl i o hi hn
      exact absurd rfl (hap i o i oj p p hi hn hg h2 h2)
  · rcases hR i o hi with h1 | ⟨h1, h2⟩
    · exact hS'.ob i o h1
    · obtain ⟨p, hp, hp', r, h3⟩ := hpl i o h1 h2
      exact ⟨p, hp', r.keep hle (hL.frame p.b r.lt fun j oj q hj hq e => absurd e (h3 j oj q hj hq))⟩
  · intro i j oi oj p q hij hi hj hp hq e
    rcases hR i oi hi with h1 | ⟨h1, h2⟩
    · rcases hR j oj hj with k1 | ⟨k1, k2⟩
      · exact hS'.sep i j oi oj p q hij h1 k1 hp hq e
      · exact absurd e.symm (hap j oj i oi q p k1 k2 h1 hq hp)
    · rcases hR j oj hj with k1 | ⟨k1, k2⟩
      · exact absurd e (hap i oi j oj p q h1 h2 k1 hp hq)
      · obtain ⟨p', hp1, hp2, _, _⟩ := hpl i oi h1 h2
        obtain ⟨q', hq1, hq2, _, _⟩ := hpl j oj k1 k2
        rw [hp] at hp2; cases hp2
        rw [hq] at hq2; cases hq2
        exact hB.sep i j oi oj p q hij h1 k1 hp1 hq1 e
  · have := hL.nx; omega
  · intro i hi; exact hL.keep i (by omega)
  · intro b hb hfix
    exact hL.frame b hb fun i o p hi hp e => hfix i o p (hsub _ _ hi) hp e
  · intro i o p hi hp
    rcases hR i o hi with h1 | ⟨h1, h2⟩
    · rcases hL.fresh i o p h1 hp with ⟨j, oj, q, hj, hq, hb, hfx⟩ | hbig
      · exact .inl ⟨j, oj, q, hsub _ _ hj, hq, hb, hfx⟩
      · exact .inr hbig
    · obtain ⟨p', hp1, hp2, _, _⟩ := hpl i o h1 h2
      rw [hp] at hp2; cases hp2
      exact .inl ⟨i, o, p, h1, hp1, rfl, id⟩
/-- A new object at a number that is kept for it. -/
theorem sim_at {ρ0 : Ro} {s0 sR : St} {w0 : World} {id : Nat} {ob : Ob} {pl : Pl} {obj : Obj} (hS : Sim τ ρ s w) (hL : Lat ρ0 s0 w0 ρ s w) (hid : ρ id = none) (hlt : id < s.nx) (h0 : s0.nx ≤ id)
    (hheap : w'.heap = w.heap.push obj) (htp : w'.tape = w.tape) (hos : w'.os = w.os) (hout : w'.output = w.output) (hpl : pl.b = w.heap.size) (hob : ObRel τ (upd ρ id pl) w' pl ob)
    (hR : ∀ i o, sR.h.get i = some o → (i = id ∧ o = ob) ∨ (i ≠ id ∧ s.h.get i = some o)) (hRnx : sR.nx = s.nx) : Sim τ (upd ρ id pl) sR w' ∧ Lat ρ0 s0 w0 (upd ρ id pl) sR w' := by
  have hle : Le ρ (upd ρ id pl) := fun j q e => by
    rw [upd_ne (by intro e'; subst e'; rw [hid] at e; cases e)]; exact e
  have hold : ∀ b, b < w.heap.size → w'.heap[b]? = w.heap[b]? := fun b hb => by rw [hheap, Array.getElem?_push, if_neg (by omega)]
  have hblk : ∀ i o p, s.h.get i = some o → ρ i = some p → p.b < w.heap.size := fun i o p hi hp => by
    obtain ⟨p', hp', r⟩ := hS.ob i o hi
    rw [hp] at hp'; cases hp'
    exact r.lt
  have hsz : w'.heap.size = w.heap.size + 1 := by rw [hheap, Array.size_push]
  refine ⟨⟨fun i o hi => ?_, ?_, fun i hi => ?_, fun g hg => ?_⟩, ⟨?_, ?_, ?_, ?_, ?_, htp.trans hL.tape, hos.trans hL.os, hout.trans hL.out⟩⟩
  · rcases hR i o hi with ⟨rfl, rfl⟩ | ⟨hne, h1⟩
    · exact ⟨pl, upd_same _ _ _, hob⟩
    · obtain ⟨p, hp, r⟩ := hS.ob i o h1
      exact ⟨p, by rw [upd_ne hne]; exact hp, r.keep hle (hold _ r.lt)⟩
  · intro i j oi oj p q hij hi hj hp hq e
    rcases hR i oi hi with ⟨rfl, rfl⟩ | ⟨hne, h1⟩
    · rcases hR j oj hj with ⟨rfl, rfl⟩ | ⟨hnj, k1⟩
      · exact absurd rfl hij
      · rw [upd_same] at hp; cases hp
        rw [upd_ne hnj] at hq
        have := hblk j oj q k1 hq; omega
    · rw [upd_ne hne] at hp
      rcases hR j oj hj with ⟨rfl, rfl⟩ | ⟨hnj, k1⟩
      · rw [upd_same] at hq; cases hq
        have := hblk i oi p h1 hp; omega
      · rw [upd_ne hnj] at hq
        exact hS.sep i j oi oj p q hij h1 k1 hp hq e
  · rw [upd_ne (by omega)]; exact hS.top i (by omega)
  · obtain ⟨m, hm⟩ := hS.glob g hg
    exact ⟨m, hle _ _ hm⟩
  · have := hL.nx; omega
  · intro i hi; rw [upd_ne (by omega)]; exact hL.keep i hi
  · intro b hb hfix
    rw [hold b (by have := hL.size; omega)]
    exact hL.frame b hb hfix
  · intro i o p hi hp
    rcases hR i o hi with ⟨rfl, rfl⟩ | ⟨hne, h1⟩
    · rw [upd_same] at hp; cases hp
      have := hL.size
      exact .inr (by omega)
    · rw [upd_ne hne] at hp
      exact hL.fresh i o p h1 hp
  · have := hL.size; omega
end Go.Hb

/-
  Masks, apart operations, the evaluator's way through a region, laid objects.
-/
namespace Go.Hb
open Go Go.Lib
variable {P : Program} {X : FuncId → Option Ext} {rc : Task → Res}

/-! ### Bits -/
theorem tb_eq (m i : Nat) : tb m i = m.testBit i := by
  unfold tb
  rw [natBeq_eq, Nat.testBit_eq_decide_div_mod_eq]
  congr 1
  show ((m >>> i) % 2 = 1) = _
  rw [Nat.shiftRight_eq_div_pow]
theorem tb_lor (a b i : Nat) : tb (Nat.lor a b) i = (tb a i || tb b i) := by
  rw [tb_eq, tb_eq, tb_eq]; exact Nat.testBit_or a b i
theorem tb_bit (k i : Nat) : tb (bit k) i = decide (k = i) := by
  rw [tb_eq]
  show (1 <<< k).testBit i = _
  rw [Nat.one_shiftLeft, Nat.testBit_two_pow]
theorem tb_zero (i : Nat) : tb 0 i = false := by rw [tb_eq]; exact Nat.zero_testBit i
theorem land_sub {a b : Nat} (h : Nat.beq (Nat.land a b) b = true) {i : Nat} (hi : tb b i = true) : tb a i = true := by
  rw [natBeq_eq, decide_eq_true_eq] at h
  have := congrArg (·.testBit i) h
  rw [tb_eq] at hi ⊢
  have h2 : (a &&& b).testBit i = b.testBit i := this
  rw [Nat.testBit_and, hi] at h2
  simpa using h2
theorem land_all {a b : Nat} (h : ∀ i, tb b i = true → tb a i = true) : Nat.beq (Nat.land b a) b = true := by
  rw [natBeq_eq, decide_eq_true_eq]
  show b &&& a = b
  apply Nat.eq_of_testBit_eq
  intro i
  rw [Nat.testBit_and]
  have := h i
  rw [tb_eq, tb_eq] at this
  cases hb : b.testBit i with
  | false => rfl
  | true => rw [this hb]; rfl
theorem tb_land (a b i : Nat) : tb (Nat.land a b) i = (tb a i && tb b i) := by
  rw [tb_eq, tb_eq, tb_eq]; exact Nat.testBit_and a b i

/-! ### Masks -/
structure MaskOk (r : List Nat) (i m : Nat) (es : List Edge) : Prop where
  edge : ∀ e ∈ es, Region.binds .any e = true → e.on < i ∧ tb m e.on = true ∧ ∃ me, r[e.on]? = some me ∧ ∀ j, tb me j = true → tb m j = true
  only : ∀ j, tb m j = true → ∃ e ∈ es, Region.binds .any e = true ∧ (j = e.on ∨ ∃ me, r[e.on]? = some me ∧ tb me j = true)
theorem edgeMask_ok {ms : List Nat} {i : Nat} : ∀ (es : List Edge) (m : Nat), edgeMask ms i es = some m → MaskOk ms i m es := by
  intro es
  induction es with
  | nil => intro m h; cases h; exact ⟨fun e h => (by cases h), fun j hj => by rw [tb_zero] at hj; cases hj⟩
  | cons e es ih =>
    intro m h
    have h : (match Region.binds .any e with
      | false => edgeMask ms i es
      | true => match Nat.ble (Nat.succ e.on) i with
        | true => oB (nth ms e.on) fun m => oB (edgeMask ms i es) fun r => some (Nat.lor (Nat.lor m (bit e.on)) r)
        | false => none) = some m := h
    split at h
    · rename_i hb
      have := ih m h
      exact ⟨fun f hf hbf => by
        cases hf with
        | head => rw [hb] at hbf; cases hbf
        | tail _ hf => exact this.edge f hf hbf, fun j hj => let ⟨f, hf, r⟩ := this.only j hj; ⟨f, List.mem_cons_of_mem _ hf, r⟩⟩
    · rename_i hb
      split at h <;> first | (cases h; done) | skip
      rename_i hlt
      rw [natBle_eq, decide_eq_true_eq] at hlt
      replace h := oB_eq h; obtain ⟨me, hme, h⟩ := h
      replace h := oB_eq h; obtain ⟨r, hr, h⟩ := h
      cases h
      rw [nth_eq] at hme
      have IH := ih r hr
      have hbits : ∀ j, tb (Nat.lor (Nat.lor me (bit e.on)) r) j = (tb me j || decide (e.on = j) || tb r j) := fun j => by rw [tb_lor, tb_lor, tb_bit]
      refine ⟨fun f hf hbf => ?_, fun j hj => ?_⟩
      · cases hf with
        | head => exact ⟨hlt, by rw [hbits]; simp, me, hme, fun j hj => by rw [hbits, hj]; simp⟩
        | tail _ hf =>
          obtain ⟨h1, h2, mf, h3, h4⟩ := IH.edge f hf hbf
          exact ⟨h1, by rw [hbits, h2]; simp, mf, h3, fun j hj => by rw [hbits, h4 j hj]; simp⟩
      · rw [hbits, Bool.or_eq_true, Bool.or_eq_true, decide_eq_true_eq] at hj
        rcases hj with (hj | hj) | hj
        · exact ⟨e, List.mem_cons_self, hb, .inr ⟨me, hme, hj⟩⟩
        · exact ⟨e, List.mem_cons_self, hb, .inl hj.symm⟩
        · obtain ⟨f, hf, r⟩ := IH.only j hj
          exact ⟨f, List.mem_cons_of_mem _ hf, r⟩
theorem masks_ok : ∀ (l : List Oper) (acc r : List Nat), masks l acc acc.length = some r → (∃ t, r = acc ++ t ∧ t.length = l.length) ∧ ∀ k o, l[k]? = some o → ∃ m, r[acc.length + k]? = some m ∧ MaskOk r (acc.length + k) m o.after.toList := by
  intro l
  induction l with
  | nil => intro acc r h; cases h; exact ⟨⟨[], by simp, rfl⟩, fun k o h => by simp at h⟩
  | cons o l ih =>
    intro acc r h
    replace h := oB_eq (show oB (edgeMask acc acc.length o.after.toList) (fun m => masks l (appL acc [m]) (Nat.succ acc.length)) = some r from h); obtain ⟨m, hm, h⟩ := h
    rw [appL_eq] at h
    have hlen : (acc ++ [m]).length = acc.length + 1 := by simp
    rw [show Nat.succ acc.length = (acc ++ [m]).length by rw [hlen]] at h
    obtain ⟨⟨t, rfl, ht⟩, hk⟩ := ih _ _ h
    have hget : ∀ i, i < acc.length → (acc ++ [m] ++ t)[i]? = acc[i]? := fun i hi => by
      rw [List.append_assoc, List.getElem?_append_left hi]
    refine ⟨⟨m :: t, by simp, by simp [ht]⟩, fun k o' hko => ?_⟩
    cases k with
    | zero =>
      simp at hko
      subst hko
      have M := edgeMask_ok _ _ hm
      refine ⟨m, by simp, ⟨fun e he hb => ?_, fun j hj => ?_⟩⟩
      · obtain ⟨h1, h2, me, h3, h4⟩ := M.edge e he hb
        exact ⟨h1, h2, me, by rw [hget _ h1]; exact h3, h4⟩
      · obtain ⟨e, he, hb, hor⟩ := M.only j hj
        refine ⟨e, he, hb, hor.imp id fun ⟨me, h3, h4⟩ => ⟨me, ?_, h4⟩⟩
        rw [hget _ (M.edge e he hb).1]; exact h3
    | succ k =>
      have := hk k o' (by simpa using hko)
      rw [hlen, show acc.length + 1 + k = acc.length + (k + 1) by omega] at this
      exact this

/-! ### Apart -/
theorem apartA_eq {di dj : Option Tmp} {ri rj : List Tmp} (h : apartA di dj ri rj = true) :
    (∀ d, di = some d → d ∉ rj) ∧ (∀ d, dj = some d → d ∉ ri) ∧ ∀ d, di = some d → dj ≠ some d := by
  cases di with
  | none => cases dj with
    | none => exact ⟨fun d h => (by cases h), fun d h => (by cases h), fun d h => (by cases h)⟩
    | some e =>
      refine ⟨fun d h => (by cases h), fun d hd => ?_, fun d h => (by cases h)⟩
      cases hd
      simpa [apartA] using h
  | some d => cases dj with
    | none =>
      refine ⟨fun x hx => ?_, fun x hx => (by cases hx), fun x hx => by simp⟩
      cases hx
      simpa [apartA] using h
    | some e =>
      simp [apartA] at h
      refine ⟨fun x hx => ?_, fun x hx => ?_, fun x hx hy => ?_⟩
      · cases hx; exact h.1
      · cases hx; exact h.2.2
      · cases hx; cases hy; exact h.2.1 rfl
theorem apartAll_eq {dj : Option Tmp} {rj : List Tmp} {mj : Nat} : ∀ (l : List (Option Tmp × List Tmp)) (k : Nat), apartAll dj rj mj l k = true → ∀ i p, l[i]? = some p → tb mj (k + i) = true ∨ apartA p.1 dj p.2 rj = true := by
  intro l
  induction l with
  | nil => intro k _ i p h; simp at h
  | cons q l ih =>
    intro k h i p hp
    have h : (match tb mj k with
      | true => apartAll dj rj mj l (Nat.succ k)
      | false => match apartA q.1 dj q.2 rj with
        | true => apartAll dj rj mj l (Nat.succ k)
        | false => false) = true := h
    cases i with
    | zero =>
      simp at hp; subst hp
      split at h
      · rename_i h1; exact .inl h1
      · split at h
        · rename_i h1; exact .inr h1
        · cases h
    | succ i =>
      have h' : apartAll dj rj mj l (Nat.succ k) = true := by
        split at h
        · exact h
        · split at h
          · exact h
          · cases h
      have := ih _ h' i p (by simpa using hp)
      rw [show k + (i + 1) = k.succ + i by omega]
      exact this
theorem apartOk_eq {ops : List Oper} : ∀ (l : List Oper) (ms : List Nat) (acc : List (Option Tmp × List Tmp)), apartOk ops l ms acc = true →
    ∀ k o m, l[k]? = some o → ms[k]? = some m → (∀ i p, acc[i]? = some p → tb m i = true ∨ apartA p.1 o.dst p.2 (readsOf ops o) = true) ∧
      ∀ i q, i < k → l[i]? = some q → tb m (acc.length + i) = true ∨ apartA q.dst o.dst (readsOf ops q) (readsOf ops o) = true := by
  intro l
  induction l with
  | nil => intro ms acc _ k o m h; simp at h
  | cons x l ih =>
    intro ms acc h k o m ho hm
    cases ms with
    | nil => simp at hm
    | cons m0 ms =>
      have h : (match apartAll x.dst (readsOf ops x) m0 acc 0 with
        | true => apartOk ops l ms (appL acc [(x.dst, readsOf ops x)])
        | false => false) = true := h
      split at h <;> first | (cases h; done) | skip
      rename_i h0
      rw [appL_eq] at h
      cases k with
      | zero =>
        simp at ho hm; subst ho; subst hm
        refine ⟨fun i p hp => ?_, fun i q hi => by omega⟩
        have := apartAll_eq _ _ h0 i p hp
        rwa [Nat.zero_add] at this
      | succ k =>
        obtain ⟨h1, h2⟩ := ih ms _ h k o m (by simpa using ho) (by simpa using hm)
        refine ⟨fun i p hp => h1 i p ?_, fun i q hi hq => ?_⟩
        · rw [List.getElem?_append_left (List.getElem?_eq_some_iff.1 hp).1]; exact hp
        · cases i with
          | zero =>
            simp at hq; subst hq
            exact h1 acc.length (x.dst, readsOf ops x) (by simp)
          | succ i =>
            have := h2 i q (by omega) (by simpa using hq)
            rw [List.length_append] at this
            rw [show acc.length + (i + 1) = acc.length + [(x.dst, readsOf ops x)].length + i by simp; omega]
            exact this
end Go.Hb

/-
  The evaluator's way through a region, step by step.
-/
namespace Go.Hb
open Go Go.Lib
variable {P : Program} {X : FuncId → Option Ext} {rc : Task → Res} {ops : List Oper} {base : Nat}

noncomputable def setD (e : PT AV) (d : Option Tmp) (v : AV) : PT AV := match d with
  | none => e
  | some t => e.set t v
theorem get_setD (e : PT AV) (d : Option Tmp) (v : AV) (t : Nat) : (setD e d v).get t = if d = some t then some v else e.get t := by
  cases d with
  | none => simp [setD]
  | some x =>
    show (e.set x v).get t = _
    rw [PT.get_set]
    by_cases h : t = x
    · subst h; simp
    · rw [if_neg h, if_neg (by intro e; cases e; exact h rfl)]
structure PutOk (a : ActA) (d : Option Tmp) (v : AV) (a' : ActA) : Prop where
  env : a'.env = setD a.env d v
  nt : a'.nt = a.nt
  df : a'.df = a.df
  lt : ∀ t, d = some t → t < a.nt
theorem putK_put {β : Type} {a : ActA} {d : Option Tmp} {v : AV} {bad r : β} {k : ActA → β} (h : putK a d v bad k = r) (hb : r ≠ bad) : ∃ a', PutOk a d v a' ∧ k a' = r := by
  cases d with
  | none => exact ⟨a, ⟨rfl, rfl, rfl, fun t h => (by cases h)⟩, h⟩
  | some t =>
    obtain ⟨env, nt, df⟩ := a
    have h : Bool.rec (motive := fun _ => β) bad (k ⟨env.set t v, nt, df⟩) (Nat.ble (Nat.succ t) nt) = r := h
    rw [boolRec_eq, natBle_eq] at h
    by_cases ht : t + 1 ≤ nt
    · rw [if_pos (by simpa using ht)] at h
      exact ⟨⟨env.set t v, nt, df⟩, ⟨rfl, rfl, rfl, fun x hx => by cases hx; exact ht⟩, h⟩
    · rw [if_neg (by simpa using ht)] at h
      exact absurd h.symm hb
/-- The heap before which an operation stands in the evaluator. -/
noncomputable def stOf (m : Nat) (p : Prog) : St := ⟨withLaid m p.k.sp p.ls p.k.s.h, p.k.s.nx⟩
inductive SI (P : Program) (X : FuncId → Option Ext) (rc : Task → Res) (ops : List Oper) (base : Nat) (o : Oper) (i m : Nat) (p p' : Prog) : AV → Prop
  | skip {a' : ActA} (hw : wantedA ops p.a.env o = false) (ha : PutOk p.a o.dst undefA a') (hp : p' = { p with a := a' }) : SI P X rc ops base o i m p p' undefA
  | quiet {a' : ActA} {v : AV} {s1 : St} (hw : wantedA ops p.a.env o = true) (hk : kindOf P o.op = .quiet) (hx : xop P o.op p.a.env (stOf m p) = .val v s1) (ha : PutOk p.a o.dst v a')
      (hp : p' = { p with a := a', qs := ⟨i, m, o.op, p.a.env, v⟩ :: p.qs }) : SI P X rc ops base o i m p p' v
  | alloc {a' : ActA} {r : Ob × (Nat → AV)} (hw : wantedA ops p.a.env o = true) (hk : kindOf P o.op = .alloc) (hx : allocOb P p.a.env o.op = some r) (ha : PutOk p.a o.dst (r.2 (base + i)) a')
      (hp : p' = { p with a := a', ls := ⟨i, base + i, r.1⟩ :: p.ls }) : SI P X rc ops base o i m p p' (r.2 (base + i))
  | heavy {a' : ActA} {v : AV} {s1 : St} (hw : wantedA ops p.a.env o = true) (hk : kindOf P o.op = .heavy) (hm : Nat.beq (Nat.land m p.k.hm) p.k.hm = true) (hx : XRun X rc (xop P o.op p.a.env (stOf m p)) v s1) (ha : PutOk p.a o.dst v a')
      (hp : p' = { p with a := a', k := ⟨s1, Nat.lor p.k.hm (bit i), Nat.lor p.k.sp m⟩, ks := p.k :: p.ks }) : SI P X rc ops base o i m p p' v
theorem drawStep_si {o : Oper} {i m : Nat} {p p' : Prog} (h : drawStep P X rc ops base o i m p = some p') : ∃ v, SI P X rc ops base o i m p p' v := by
  unfold drawStep at h
  split at h
  · rename_i hw
    obtain ⟨a', ha, hk⟩ := putK_put h (by simp)
    exact ⟨_, .skip hw ha (Option.some.inj hk).symm⟩
  · rename_i hw
    split at h
    · rename_i hkind
      split at h <;> first | (cases h; done) | skip
      rename_i v s1 hx
      obtain ⟨a', ha, hk⟩ := putK_put h (by simp)
      exact ⟨_, .quiet hw hkind hx ha (Option.some.inj hk).symm⟩
    · rename_i hkind
      replace h := oB_eq h; obtain ⟨r, hr, h⟩ := h
      obtain ⟨a', ha, hk⟩ := putK_put h (by simp)
      exact ⟨_, .alloc hw hkind hr ha (Option.some.inj hk).symm⟩
    · rename_i hkind
      split at h <;> first | (cases h; done) | skip
      rename_i hm
      obtain ⟨v, s1, hx, h⟩ := runK_eq h (by simp)
      obtain ⟨a', ha, hk⟩ := putK_put h (by simp)
      exact ⟨_, .heavy hw hkind hm hx ha (Option.some.inj hk).symm⟩
theorem drawOps_trace : ∀ (l : List Oper) (ms : List Nat) (i : Nat) (p p' : Prog), drawOps P X rc ops base l ms i p = some p' →
    ∃ ps : Nat → Prog, ps i = p ∧ ps (i + l.length) = p' ∧ ∀ k o m, l[k]? = some o → ms[k]? = some m → ∃ v, SI P X rc ops base o (i + k) m (ps (i + k)) (ps (i + k + 1)) v := by
  intro l
  induction l with
  | nil =>
    intro ms i p p' h
    cases ms with
    | nil => cases h; exact ⟨fun _ => p, rfl, rfl, fun k o m ho => by simp at ho⟩
    | cons => cases h; exact ⟨fun _ => p, rfl, rfl, fun k o m ho => by simp at ho⟩
  | cons o l ih =>
    intro ms i p p' h
    cases ms with
    | nil => cases h
    | cons m ms =>
      replace h := oB_eq (show oB (drawStep P X rc ops base o i m p) (fun p' => drawOps P X rc ops base l ms (Nat.succ i) p') = some p' from h); obtain ⟨p1, hp1, h⟩ := h
      obtain ⟨ps, h0, h1, hk⟩ := ih ms _ p1 p' h
      refine ⟨fun x => if x ≤ i then p else ps x, by simp, ?_, fun k o' m' ho hm => ?_⟩
      · show (if i + (l.length + 1) ≤ i then p else ps (i + (l.length + 1))) = p'
        rw [if_neg (by omega), ← h1]; congr 1; omega
      · cases k with
        | zero =>
          simp at ho hm; subst ho; subst hm
          obtain ⟨v, hv⟩ := drawStep_si hp1
          refine ⟨v, ?_⟩
          show SI P X rc ops base o (i + 0) m (if i + 0 ≤ i then p else ps (i + 0)) (if i + 0 + 1 ≤ i then p else ps (i + 0 + 1)) v
          rw [if_pos (by omega), if_neg (by omega), show i + 0 + 1 = i.succ by omega, h0]
          exact hv
        | succ k =>
          obtain ⟨v, hv⟩ := hk k o' m' (by simpa using ho) (by simpa using hm)
          refine ⟨v, ?_⟩
          show SI P X rc ops base o' (i + (k + 1)) m' (if i + (k + 1) ≤ i then p else ps (i + (k + 1))) (if i + (k + 1) + 1 ≤ i then p else ps (i + (k + 1) + 1)) v
          rw [if_neg (by omega), if_neg (by omega), show i + (k + 1) = i.succ + k by omega]
          exact hv

/-! ### Temporaries -/
section
variable (dst : Nat → Option Tmp) (val : Nat → AV) (e0 : PT AV)
noncomputable def envD (D : Nat → Bool) : Nat → PT AV
  | 0 => e0
  | k + 1 => if D k then setD (envD D k) (dst k) (val k) else envD D k
variable {dst val e0}
theorem envD_low {D : Nat → Bool} {t k : Nat} : ∀ n, k ≤ n → (∀ j, k ≤ j → j < n → D j = true → dst j ≠ some t) → (envD dst val e0 D n).get t = (envD dst val e0 D k).get t := by
  intro n
  induction n with
  | zero => intro h _; rw [show k = 0 by omega]
  | succ n ih =>
    intro hk h
    by_cases he : k = n + 1
    · subst he; rfl
    · show (if D n then _ else _ : PT AV).get t = _
      by_cases hD : D n = true
      · rw [if_pos hD, get_setD, if_neg (h n (by omega) (by omega) hD)]
        exact ih (by omega) fun j h1 h2 => h j h1 (by omega)
      · rw [if_neg hD]; exact ih (by omega) fun j h1 h2 => h j h1 (by omega)
theorem envD_same {D D' : Nat → Bool} {t : Nat} : ∀ k, (∀ j, j < k → dst j = some t → D j = D' j) → (envD dst val e0 D k).get t = (envD dst val e0 D' k).get t := by
  intro k
  induction k with
  | zero => intro _; rfl
  | succ k ih =>
    intro h
    have IH := ih fun j hj => h j (by omega)
    show (if D k then _ else _ : PT AV).get t = (if D' k then _ else _ : PT AV).get t
    by_cases hd : dst k = some t
    · rw [h k (by omega) hd]
      split
      · rw [get_setD, get_setD, if_pos hd, if_pos hd]
      · exact IH
    · have h1 : ∀ (b : Bool) (e : PT AV), (if b = true then setD e (dst k) (val k) else e).get t = e.get t := fun b e => by
        cases b
        · rfl
        · rw [if_pos rfl, get_setD, if_neg hd]
      rw [h1, h1]; exact IH
end

/-! ### Laid objects -/
noncomputable def layF (D : Nat → Bool) : List Laid → PT Ob → PT Ob
  | [], h => h
  | l :: ls, h => if D l.i then layF D ls (h.set l.id l.ob) else layF D ls h
theorem withLaid_eq (pm sp : Nat) : ∀ (ls : List Laid) (h : PT Ob), withLaid pm sp ls h = layF (fun i => tb pm i && !tb sp i) ls h := by
  intro ls
  induction ls with
  | nil => intro h; rfl
  | cons l ls ih =>
    intro h
    show (match tb pm l.i, tb sp l.i with
      | true, false => withLaid pm sp ls (h.set l.id l.ob)
      | _, _ => withLaid pm sp ls h) = (if (tb pm l.i && !tb sp l.i) then layF _ ls (h.set l.id l.ob) else layF _ ls h)
    cases tb pm l.i <;> cases tb sp l.i <;> simp [ih]
theorem withAll_eq (sp : Nat) : ∀ (ls : List Laid) (h : PT Ob), withAll sp ls h = layF (fun i => !tb sp i) ls h := by
  intro ls
  induction ls with
  | nil => intro h; rfl
  | cons l ls ih =>
    intro h
    show (match tb sp l.i with
      | false => withAll sp ls (h.set l.id l.ob)
      | true => withAll sp ls h) = (if (!tb sp l.i) then layF _ ls (h.set l.id l.ob) else layF _ ls h)
    cases tb sp l.i <;> simp [ih]
theorem layF_get {D : Nat → Bool} : ∀ (ls : List Laid) (h : PT Ob) (id : Nat) (o : Ob), (layF D ls h).get id = some o → (∃ l ∈ ls, l.id = id ∧ l.ob = o ∧ D l.i = true) ∨ ((∀ l ∈ ls, l.id = id → D l.i = false) ∧ h.get id = some o) := by
  intro ls
  induction ls with
  | nil => intro h id o hg; exact .inr ⟨fun l hl => (by cases hl), hg⟩
  | cons l ls ih =>
    intro h id o hg
    have hg : (if D l.i then layF D ls (h.set l.id l.ob) else layF D ls h).get id = some o := hg
    by_cases hD : D l.i = true
    · rw [if_pos hD] at hg
      rcases ih _ _ _ hg with ⟨x, hx, h1, h2, h3⟩ | ⟨h1, h2⟩
      · exact .inl ⟨x, List.mem_cons_of_mem _ hx, h1, h2, h3⟩
      · rw [PT.get_set] at h2
        by_cases hid : id = l.id
        · rw [if_pos hid] at h2; cases h2
          exact .inl ⟨l, List.mem_cons_self, hid.symm, rfl, hD⟩
        · rw [if_neg hid] at h2
          refine .inr ⟨fun x hx hxi => ?_, h2⟩
          cases hx with
          | head => exact absurd hxi.symm hid
          | tail _ hx => exact h1 x hx hxi
    · rw [if_neg hD] at hg
      rcases ih _ _ _ hg with ⟨x, hx, h1, h2, h3⟩ | ⟨h1, h2⟩
      · exact .inl ⟨x, List.mem_cons_of_mem _ hx, h1, h2, h3⟩
      · refine .inr ⟨fun x hx hxi => ?_, h2⟩
        cases hx with
        | head => simpa using hD
        | tail _ hx => exact h1 x hx hxi
theorem layF_old {D : Nat → Bool} : ∀ (ls : List Laid) (h : PT Ob) (id : Nat), (∀ l ∈ ls, l.id = id → D l.i = false) → (layF D ls h).get id = h.get id := by
  intro ls
  induction ls with
  | nil => intro h id _; rfl
  | cons l ls ih =>
    intro h id hn
    show (if D l.i then layF D ls (h.set l.id l.ob) else layF D ls h).get id = _
    have IH := fun h => ih h id fun x hx => hn x (List.mem_cons_of_mem _ hx)
    by_cases hD : D l.i = true
    · rw [if_pos hD, IH, PT.get_set, if_neg]
      intro e
      rw [hn l List.mem_cons_self e.symm] at hD; cases hD
    · rw [if_neg hD, IH]
theorem layF_new {D : Nat → Bool} : ∀ (ls : List Laid) (h : PT Ob) (l : Laid), (∀ x ∈ ls, x.id = l.id → x = l) → l ∈ ls → D l.i = true → (layF D ls h).get l.id = some l.ob := by
  intro ls
  induction ls with
  | nil => intro h l _ hl; cases hl
  | cons x ls ih =>
    intro h l hu hl hD
    show (if D x.i then layF D ls (h.set x.id x.ob) else layF D ls h).get l.id = _
    by_cases hin : l ∈ ls
    · have IH := fun h => ih h l (fun y hy => hu y (List.mem_cons_of_mem _ hy)) hin hD
      split <;> exact IH _
    · have hx : x = l := by
        cases hl with
        | head => rfl
        | tail _ h => exact absurd h hin
      subst hx
      rw [if_pos hD, layF_old _ _ _ (fun y hy hyi => by
        have := hu y (List.mem_cons_of_mem _ hy) hyi
        subst this
        exact absurd hy hin), PT.get_set, if_pos rfl]
end Go.Hb

/-
  A region that draws its order: the facts of the way.
-/
namespace Go.Hb
open Go Go.Lib
variable {P : Program} {X : FuncId → Option Ext} {rc : Task → Res}

/-- The way through a region. -/
structure Way (P : Program) (X : FuncId → Option Ext) (rc : Task → Res) (l : List Oper) (base : Nat) (M : Nat → Nat) (ms : List Nat) (ps : Nat → Prog) (val : Nat → AV) : Prop where
  get : ∀ i, i < l.length → ms[i]? = some (M i)
  mask : ∀ i o, l[i]? = some o → MaskOk ms i (M i) o.after.toList
  apart : ∀ i j oi oj, i < j → l[i]? = some oi → l[j]? = some oj → tb (M j) i = true ∨ apartA oi.dst oj.dst (readsOf l oi) (readsOf l oj) = true
  step : ∀ i o, l[i]? = some o → SI P X rc l base o i (M i) (ps i) (ps (i + 1)) (val i)
  hm0 : (ps 0).k.hm = 0
  ls0 : (ps 0).ls = []
  qs0 : (ps 0).qs = []
  ks0 : (ps 0).ks = []
theorem way_of {l : List Oper} {base : Nat} {p0 p' : Prog} {ms : List Nat} (hplan : regPlan l = some ms) (h : drawOps P X rc l base l ms 0 p0 = some p') (h0 : p0.k.hm = 0 ∧ p0.ls = [] ∧ p0.qs = [] ∧ p0.ks = []) :
    ∃ M ps val, Way P X rc l base M ms ps val ∧ ps 0 = p0 ∧ ps l.length = p' := by
  unfold regPlan at hplan
  replace hplan := oB_eq hplan; obtain ⟨ms', hms, hplan⟩ := hplan
  split at hplan <;> first | (cases hplan; done) | skip
  rename_i hap
  cases hplan
  obtain ⟨⟨t, ht, hlen⟩, hmask⟩ := masks_ok l [] ms hms
  simp only [List.nil_append] at ht
  subst ht
  obtain ⟨ps, hp0, hp1, hstep⟩ := drawOps_trace l ms 0 p0 p' h
  rw [Nat.zero_add] at hp1
  have hget : ∀ i, i < l.length → ms[i]? = some ((ms[i]?).getD 0) := fun i hi => by
    have : i < ms.length := by omega
    simp [this]
  have hval : ∀ i, ∃ v, ∀ o, l[i]? = some o → SI P X rc l base o i ((ms[i]?).getD 0) (ps i) (ps (i + 1)) v := fun i => by
    cases ho : l[i]? with
    | none => exact ⟨.nif, fun o h => by cases h⟩
    | some o =>
      obtain ⟨v, hv⟩ := hstep i o _ ho (hget i (List.getElem?_eq_some_iff.1 ho).1)
      rw [Nat.zero_add] at hv
      exact ⟨v, fun o' h => by cases h; exact hv⟩
  refine ⟨fun i => (ms[i]?).getD 0, ps, fun i => Classical.choose (hval i), ⟨hget, fun i o ho => ?_, fun i j oi oj hij hi hj => ?_, fun i o ho => Classical.choose_spec (hval i) o ho, ?_, ?_, ?_, ?_⟩, hp0, hp1⟩
  · obtain ⟨m, hm, hk⟩ := hmask i o ho
    simp only [List.length_nil, Nat.zero_add] at hm hk
    simp only [hm, Option.getD_some]
    exact hk
  · have hj' := hget j (List.getElem?_eq_some_iff.1 hj).1
    have := (apartOk_eq l ms [] hap j oj _ hj hj').2 i oi hij hi
    simpa using this
  · rw [hp0]; exact h0.1
  · rw [hp0]; exact h0.2.1
  · rw [hp0]; exact h0.2.2.1
  · rw [hp0]; exact h0.2.2.2
section
variable {l : List Oper} {base : Nat} {M : Nat → Nat} {ms : List Nat} {ps : Nat → Prog} {val : Nat → AV} (W : Way P X rc l base M ms ps val)
include W
def dstOf (l : List Oper) (i : Nat) : Option Tmp := (l[i]?).bind (·.dst)
theorem Way.put {i : Nat} {o : Oper} (ho : l[i]? = some o) : PutOk (ps i).a o.dst (val i) (ps (i + 1)).a := by
  have := W.step i o ho
  generalize ps (i + 1) = p' at this ⊢
  generalize val i = v at this ⊢
  cases this with
  | skip hw ha hp => subst hp; exact ha
  | quiet hw hk hx ha hp => subst hp; exact ha
  | alloc hw hk hx ha hp => subst hp; exact ha
  | heavy hw hk hm hx ha hp => subst hp; exact ha
theorem Way.act : ∀ k, k ≤ l.length → (ps k).a.env = envD (dstOf l) val (ps 0).a.env (fun _ => true) k ∧ (ps k).a.nt = (ps 0).a.nt ∧ (ps k).a.df = (ps 0).a.df := by
  intro k
  induction k with
  | zero => intro _; exact ⟨rfl, rfl, rfl⟩
  | succ k ih =>
    intro hk
    obtain ⟨h1, h2, h3⟩ := ih (by omega)
    obtain ⟨o, ho⟩ : ∃ o, l[k]? = some o := ⟨l[k], by simp⟩
    have hp := W.put ho
    refine ⟨?_, hp.nt.trans h2, hp.df.trans h3⟩
    rw [hp.env, h1]
    show _ = (if true = true then setD _ (dstOf l k) (val k) else _)
    rw [if_pos rfl]
    simp [dstOf, ho]
def Hv (ps : Nat → Prog) (i : Nat) : Prop := tb (ps (i + 1)).k.hm i = true
theorem Way.hm : ∀ k, k ≤ l.length → ∀ i, tb (ps k).k.hm i = true ↔ i < k ∧ Hv ps i := by
  intro k
  induction k with
  | zero => intro _ i; rw [W.hm0, tb_zero]; simp
  | succ k ih =>
    intro hk i
    have IH := ih (by omega)
    obtain ⟨o, ho⟩ : ∃ o, l[k]? = some o := ⟨l[k], by simp⟩
    have hs := W.step k o ho
    have key : ((ps (k + 1)).k.hm = (ps k).k.hm) ∨ (ps (k + 1)).k.hm = Nat.lor (ps k).k.hm (bit k) := by
      generalize ps (k + 1) = p' at hs ⊢
      generalize val k = v at hs
      cases hs with
      | skip hw ha hp => subst hp; exact .inl rfl
      | quiet hw hk hx ha hp => subst hp; exact .inl rfl
      | alloc hw hk hx ha hp => subst hp; exact .inl rfl
      | heavy hw hk hm hx ha hp => subst hp; exact .inr rfl
    have hkk : tb (ps k).k.hm k = false := by
      cases hb : tb (ps k).k.hm k with
      | false => rfl
      | true => have := ((IH k).1 hb).1; omega
    rcases key with e | e
    · rw [e, IH i]
      constructor
      · rintro ⟨h1, h2⟩; exact ⟨by omega, h2⟩
      · rintro ⟨h1, h2⟩
        refine ⟨?_, h2⟩
        rcases Nat.lt_or_ge i k with h' | h'
        · exact h'
        · have : i = k := by omega
          subst this
          unfold Hv at h2
          rw [e, hkk] at h2; cases h2
    · rw [e, tb_lor, tb_bit, Bool.or_eq_true, decide_eq_true_eq, IH i]
      constructor
      · rintro (⟨h1, h2⟩ | h1)
        · exact ⟨by omega, h2⟩
        · subst h1
          refine ⟨by omega, ?_⟩
          unfold Hv
          rw [e, tb_lor, tb_bit]; simp
      · rintro ⟨h1, h2⟩
        rcases Nat.lt_or_ge i k with h' | h'
        · exact .inl ⟨h', h2⟩
        · exact .inr (by omega)
theorem Way.hm_self {k : Nat} (hk : k ≤ l.length) : tb (ps k).k.hm k = false := by
  cases hb : tb (ps k).k.hm k with
  | false => rfl
  | true => have := ((W.hm k hk k).1 hb).1; omega
theorem Way.link_step {k : Nat} (hk : k < l.length) (h : ¬ Hv ps k) : (ps (k + 1)).k = (ps k).k ∧ (ps (k + 1)).ks = (ps k).ks := by
  obtain ⟨o, ho⟩ : ∃ o, l[k]? = some o := ⟨l[k], by simp⟩
  have hs := W.step k o ho
  unfold Hv at h
  generalize ps (k + 1) = p' at hs h ⊢
  generalize val k = v at hs
  cases hs with
  | skip hw ha hp => subst hp; exact ⟨rfl, rfl⟩
  | quiet hw hk hx ha hp => subst hp; exact ⟨rfl, rfl⟩
  | alloc hw hk hx ha hp => subst hp; exact ⟨rfl, rfl⟩
  | heavy hw hk hm hx ha hp =>
    subst hp
    exact absurd (by rw [tb_lor, tb_bit]; simp) h
theorem Way.link_same {j : Nat} : ∀ k, j ≤ k → k ≤ l.length → (∀ i, j ≤ i → i < k → ¬ Hv ps i) → (ps k).k = (ps j).k := by
  intro k
  induction k with
  | zero => intro h _ _; rw [show j = 0 by omega]
  | succ k ih =>
    intro hj hk h
    by_cases he : j = k + 1
    · subst he; rfl
    · rw [(W.link_step (by omega) (h k (by omega) (by omega))).1]
      exact ih (by omega) (by omega) fun i h1 h2 => h i h1 (by omega)
theorem Way.ls : ∀ k, k ≤ l.length → (∀ x ∈ (ps k).ls, x.i < k ∧ x.id = base + x.i) ∧ (∀ x y, x ∈ (ps k).ls → y ∈ (ps k).ls → x.i = y.i → x = y) := by
  intro k
  induction k with
  | zero => intro _; rw [W.ls0]; exact ⟨fun x h => (by cases h), fun x y h => (by cases h)⟩
  | succ k ih =>
    intro hk
    obtain ⟨h1, h2⟩ := ih (by omega)
    obtain ⟨o, ho⟩ : ∃ o, l[k]? = some o := ⟨l[k], by simp⟩
    have hs := W.step k o ho
    have same : (ps (k + 1)).ls = (ps k).ls → (∀ x ∈ (ps (k + 1)).ls, x.i < k + 1 ∧ x.id = base + x.i) ∧ (∀ x y, x ∈ (ps (k + 1)).ls → y ∈ (ps (k + 1)).ls → x.i = y.i → x = y) := fun e => by
      rw [e]; exact ⟨fun x hx => ⟨by have := (h1 x hx).1; omega, (h1 x hx).2⟩, h2⟩
    generalize ps (k + 1) = p' at hs same ⊢
    generalize val k = v at hs
    cases hs with
    | skip hw ha hp => subst hp; exact same rfl
    | quiet hw hk hx ha hp => subst hp; exact same rfl
    | heavy hw hk hm hx ha hp => subst hp; exact same rfl
    | alloc hw hk hx ha hp =>
      subst hp
      refine ⟨fun x hx => ?_, fun x y hx hy e => ?_⟩
      · cases hx with
        | head => exact ⟨by show k < k + 1; omega, rfl⟩
        | tail _ hx => exact ⟨by have := (h1 x hx).1; omega, (h1 x hx).2⟩
      · cases hx with
        | head => cases hy with
          | head => rfl
          | tail _ hy => have := (h1 y hy).1; have e : k = y.i := e; omega
        | tail _ hx => cases hy with
          | head => have := (h1 x hx).1; have e : x.i = k := e; omega
          | tail _ hy => exact h2 x y hx hy e
theorem Way.mono {k : Nat} (hk : k < l.length) : (∃ t, (ps (k + 1)).ls = t ++ (ps k).ls ∧ ∀ x ∈ t, x.i = k) ∧ (∃ t, (ps (k + 1)).qs = t ++ (ps k).qs) ∧ ((ps (k + 1)).k = (ps k).k ∧ (ps (k + 1)).ks = (ps k).ks ∨ (ps (k + 1)).ks = (ps k).k :: (ps k).ks) := by
  obtain ⟨o, ho⟩ : ∃ o, l[k]? = some o := ⟨l[k], by simp⟩
  have hs := W.step k o ho
  generalize ps (k + 1) = p' at hs ⊢
  generalize val k = v at hs
  cases hs with
  | skip hw ha hp => subst hp; exact ⟨⟨[], rfl, fun x h => (by cases h)⟩, ⟨[], rfl⟩, .inl ⟨rfl, rfl⟩⟩
  | quiet hw hk hx ha hp => subst hp; exact ⟨⟨[], rfl, fun x h => (by cases h)⟩, ⟨[_], rfl⟩, .inl ⟨rfl, rfl⟩⟩
  | alloc hw hk hx ha hp => subst hp; exact ⟨⟨[_], rfl, fun x h => by cases h with | head => rfl | tail _ h => cases h⟩, ⟨[], rfl⟩, .inl ⟨rfl, rfl⟩⟩
  | heavy hw hk hm hx ha hp => subst hp; exact ⟨⟨[], rfl, fun x h => (by cases h)⟩, ⟨[], rfl⟩, .inr rfl⟩
theorem Way.later {j : Nat} : ∀ k, j ≤ k → k ≤ l.length → (∃ t, (ps k).ls = t ++ (ps j).ls ∧ ∀ x ∈ t, j ≤ x.i) ∧ (∀ q ∈ (ps j).qs, q ∈ (ps k).qs) ∧ (∀ y ∈ (ps j).k :: (ps j).ks, y ∈ (ps k).k :: (ps k).ks) ∧ ((ps k).ks = [] → (ps k).k = (ps j).k) := by
  intro k
  induction k with
  | zero => intro h _; rw [show j = 0 by omega]; exact ⟨⟨[], rfl, fun x h => (by cases h)⟩, fun q h => h, fun y h => h, fun _ => rfl⟩
  | succ k ih =>
    intro hj hk
    by_cases he : j = k + 1
    · subst he; exact ⟨⟨[], rfl, fun x h => (by cases h)⟩, fun q h => h, fun y h => h, fun _ => rfl⟩
    · obtain ⟨⟨t, h1, h1'⟩, h2, h3, h4⟩ := ih (by omega) (by omega)
      obtain ⟨⟨t', k1, k1'⟩, ⟨t2, k2⟩, k3⟩ := W.mono (show k < l.length by omega)
      refine ⟨⟨t' ++ t, by rw [k1, h1, List.append_assoc], fun x hx => ?_⟩, fun q hq => by rw [k2]; exact List.mem_append_right _ (h2 q hq), fun y hy => ?_, fun hks => ?_⟩
      · rcases List.mem_append.1 hx with hx | hx
        · rw [k1' x hx]; omega
        · exact h1' x hx
      · have := h3 y hy
        rcases k3 with ⟨e1, e2⟩ | e
        · rw [e1, e2]; exact this
        · rw [e]; exact List.mem_cons_of_mem _ this
      · rcases k3 with ⟨e1, e2⟩ | e
        · rw [e1]; exact h4 (by rw [← e2]; exact hks)
        · rw [e] at hks; cases hks
theorem Way.mask_lt {i : Nat} (hi : i < l.length) {j : Nat} (h : tb (M i) j = true) : j < i := by
  obtain ⟨o, ho⟩ : ∃ o, l[i]? = some o := ⟨l[i], by simp⟩
  have MO := W.mask i o ho
  obtain ⟨e, he, hb, hor⟩ := MO.only j h
  have hlt := (MO.edge e he hb).1
  rcases hor with rfl | ⟨me, hme, hj⟩
  · exact hlt
  · have := W.get e.on (by omega)
    rw [this] at hme; cases hme
    have := Way.mask_lt (i := e.on) (by omega) hj
    omega
termination_by i
end
end Go.Hb

/-
  A region that draws its order: whatever order is drawn.
-/
namespace Go.Hb
open Go Go.Lib
variable {P : Program} {τ : Nat → Value} {X : FuncId → Option Ext} {rc : Task → Res}

theorem EnvRel.congr {ρ : Ro} {e e' : PT AV} {nt : Nat} {tmps : Array Value} (h : EnvRel τ ρ e nt tmps) (he : ∀ t, e'.get t = e.get t) : EnvRel τ ρ e' nt tmps :=
  ⟨h.size, fun t v hv => h.some t v (by rw [← he]; exact hv), fun t hv => h.none t (by rw [← he]; exact hv)⟩
theorem mem_tmpsOf {t : Nat} : ∀ {l : List Operand}, Operand.tmp t ∈ l → t ∈ tmpsOf l := by
  intro l
  induction l with
  | nil => intro h; cases h
  | cons x l ih =>
    intro h
    cases h with
    | head => exact List.mem_cons_self
    | tail _ h => cases x <;> first | exact List.mem_cons_of_mem _ (ih h) | exact ih h
theorem reads_operand {ops : List Oper} {o : Oper} {t : Nat} (h : Operand.tmp t ∈ o.op.operands) : t ∈ readsOf ops o := by
  unfold readsOf
  rw [appL_eq]
  exact List.mem_append_left _ (mem_tmpsOf (by simpa using h))
theorem reads_guard {ops : List Oper} {o : Oper} {j : Nat} {b : Bool} {q : Oper} {t : Nat} (hg : o.guard = some (j, b)) (hq : ops[j]? = some q) (ht : q.dst = some t) : t ∈ readsOf ops o := by
  unfold readsOf
  rw [appL_eq]
  refine List.mem_append_right _ ?_
  rw [hg]
  simp [nth_eq, hq, ht, oB_some]
theorem wanted_congr {ops : List Oper} {o : Oper} {e e' : PT AV} (h : ∀ t ∈ readsOf ops o, e.get t = e'.get t) : wantedA ops e o = wantedA ops e' o := by
  unfold wantedA
  cases hg : o.guard with
  | none => rfl
  | some g =>
    obtain ⟨j, b⟩ := g
    show (match oB (nth ops j) fun q => oB q.dst fun t => e.get t with
      | some (.bool x) => eqBool x b
      | _ => false) = (match oB (nth ops j) fun q => oB q.dst fun t => e'.get t with
      | some (.bool x) => eqBool x b
      | _ => false)
    rw [nth_eq]
    cases hq : ops[j]? with
    | none => rfl
    | some q =>
      cases ht : q.dst with
      | none => simp [oB_some, oB, ht]
      | some t => simp only [oB_some, ht]; rw [h t (reads_guard hg hq ht)]

variable {l : List Oper} {base : Nat} {M : Nat → Nat} {ms : List Nat} {ps : Nat → Prog} {val : Nat → AV}
/-- The heap when the operations D are done. -/
noncomputable def stD (l : List Oper) (ps : Nat → Prog) (D : Nat → Bool) (j : Nat) : St := ⟨layF (fun i => D i && !tb (ps j).k.sp i) (ps l.length).ls (ps j).k.s.h, (ps j).k.s.nx⟩
def Closed (l : List Oper) (M : Nat → Nat) (D : Nat → Bool) : Prop := ∀ i, i < l.length → D i = true → ∀ k, tb (M i) k = true → D k = true
/-- What holds when the operations D are done. -/
structure Inv (τ : Nat → Value) (l : List Oper) (base : Nat) (M : Nat → Nat) (ps : Nat → Prog) (val : Nat → AV) (ρ0 : Ro) (s0 : St) (w0 : World) (D : Nat → Bool) (A : Act) (w : World) (ρ : Ro) (j : Nat) : Prop where
  closed : Closed l M D
  low : ∀ i, D i = true → i < l.length
  stage : j ≤ l.length ∧ ∀ h, h < l.length → Hv ps h → (D h = true ↔ h < j)
  sp : ∀ k, tb (ps j).k.sp k = true → D k = true
  free : ∀ k, k < l.length → D k = false → ρ (base + k) = none
  non : ∀ k, k < l.length → (∀ x ∈ (ps l.length).ls, x.i ≠ k) → ρ (base + k) = none
  hn : ∀ k, k < l.length → tb (ps j).k.sp k = false → (ps j).k.s.h.get (base + k) = none
  tw : ∀ x ∈ (ps l.length).ls, D x.i = true → twinOf (some x.ob) = none
  sim : Sim τ ρ (stD l ps D j) w
  lat : Lat ρ0 s0 w0 ρ (stD l ps D j) w
  env : EnvRel τ ρ (envD (dstOf l) val (ps 0).a.env D l.length) (ps 0).a.nt A.tmps
  df : DfRel τ ρ (ps 0).a.df A.defers
  nx : base + l.length ≤ (ps j).k.s.nx
section
variable {ρ0 : Ro} {s0 : St} {w0 : World} {D : Nat → Bool} {A : Act} {w : World} {ρ : Ro} {j : Nat}
variable (W : Way P X rc l base M ms ps val)
include W
/-- What an operation reads has come. -/
theorem Way.agree (hC : Closed l M D) {i : Nat} {o : Oper} (ho : l[i]? = some o) (hi : D i = false) (hm : ∀ k, tb (M i) k = true → D k = true) :
    ∀ t ∈ readsOf l o, (envD (dstOf l) val (ps 0).a.env D l.length).get t = (ps i).a.env.get t := by
  intro t ht
  have hil := (List.getElem?_eq_some_iff.1 ho).1
  rw [(W.act i (by omega)).1, envD_low (k := i) l.length (by omega)]
  · refine envD_same i fun j hj hd => ?_
    cases hq : l[j]? with
    | none => simp [dstOf, hq] at hd
    | some q =>
      rcases W.apart j i q o hj hq ho with h | h
      · rw [hm j h]
      · exact absurd ht ((apartA_eq h).1 t (by simpa [dstOf, hq] using hd))
  · intro j h1 h2 hD hd
    cases hq : l[j]? with
    | none => simp [dstOf, hq] at hd
    | some q =>
      have hji : j ≠ i := fun e => by subst e; rw [hi] at hD; cases hD
      rcases W.apart i j o q (by omega) ho hq with h | h
      · have := hC j h2 hD i h
        rw [hi] at this; cases this
      · exact absurd ht ((apartA_eq h).2.1 t (by simpa [dstOf, hq] using hd))
def ins (D : Nat → Bool) (i : Nat) : Nat → Bool := fun k => if k = i then true else D k
omit W in
theorem ins_self (D : Nat → Bool) (i : Nat) : ins D i i = true := by simp [ins]
omit W in
theorem ins_ne {D : Nat → Bool} {i k : Nat} (h : k ≠ i) : ins D i k = D k := by simp [ins, h]
omit W in
theorem ins_of {D : Nat → Bool} {i k : Nat} (h : D k = true) : ins D i k = true := by
  by_cases e : k = i
  · subst e; exact ins_self _ _
  · rw [ins_ne e]; exact h
theorem Way.env_ins (hC : Closed l M D) {i : Nat} {o : Oper} (ho : l[i]? = some o) (hi : D i = false) (t : Nat) :
    (envD (dstOf l) val (ps 0).a.env (ins D i) l.length).get t = (setD (envD (dstOf l) val (ps 0).a.env D l.length) o.dst (val i)).get t := by
  have hil := (List.getElem?_eq_some_iff.1 ho).1
  have hdi : dstOf l i = o.dst := by simp [dstOf, ho]
  rw [get_setD]
  by_cases hd : o.dst = some t
  · rw [if_pos hd, envD_low (k := i + 1) l.length (by omega)]
    · show (if ins D i i then setD _ (dstOf l i) (val i) else _ : PT AV).get t = _
      rw [ins_self, if_pos rfl, get_setD, hdi, if_pos hd]
    · intro j h1 h2 hDj hdj
      rw [ins_ne (by omega)] at hDj
      cases hq : l[j]? with
      | none => simp [dstOf, hq] at hdj
      | some q =>
        rcases W.apart i j o q (by omega) ho hq with h | h
        · have := hC j h2 hDj i h
          rw [hi] at this; cases this
        · exact (apartA_eq h).2.2 t hd (by simpa [dstOf, hq] using hdj)
  · rw [if_neg hd]
    refine envD_same _ fun j hj hdj => ins_ne fun e => ?_
    subst e
    rw [hdi] at hdj
    exact hd hdj
theorem Way.closed_ins (hC : Closed l M D) {i : Nat} (hm : ∀ k, tb (M i) k = true → D k = true) : Closed l M (ins D i) := by
  have _ := W
  intro k hk hD x hx
  by_cases e : k = i
  · subst e; exact ins_of (hm x hx)
  · rw [ins_ne e] at hD
    exact ins_of (hC k hk hD x hx)
/-- The environment after an operation. -/
theorem Way.env_put (hI : Inv τ l base M ps val ρ0 s0 w0 D A w ρ j) {i : Nat} {o : Oper} (ho : l[i]? = some o) (hi : D i = false) {ρ' : Ro} (hle : Le ρ ρ') {u : Value} (hr : Rel τ ρ' (val i) u) :
    EnvRel τ ρ' (envD (dstOf l) val (ps 0).a.env (ins D i) l.length) (ps 0).a.nt (A.put o.dst u).tmps ∧ DfRel τ ρ' (ps 0).a.df (A.put o.dst u).defers := by
  have hil := (List.getElem?_eq_some_iff.1 ho).1
  have hp := W.put ho
  have hnt := (W.act i (by omega)).2.1
  have hcong := W.env_ins hI.closed ho hi
  cases hd : o.dst with
  | none =>
    refine ⟨(hI.env.mono hle).congr fun t => ?_, hI.df.mono hle⟩
    rw [hcong t, hd]
    try rfl
  | some t =>
    refine ⟨EnvRel.congr (Hb.env_put (hI.env.mono hle) (by rw [← hnt]; exact hp.lt t hd) hr) fun x => ?_, hI.df.mono hle⟩
    rw [hcong x, hd]
    try rfl
end
end Go.Hb

/-
  A region that draws its order: one operation, in whatever order.
-/
namespace Go.Hb
open Go Go.Lib
variable {P : Program} {τ : Nat → Value} {X : FuncId → Option Ext} {rc : Task → Res}
variable {l : List Oper} {base : Nat} {M : Nat → Nat} {ms : List Nat} {ps : Nat → Prog} {val : Nat → AV}
variable {ρ0 : Ro} {s0 : St} {w0 : World} {D : Nat → Bool} {A : Act} {w : World} {ρ : Ro} {j : Nat}
section
variable (W : Way P X rc l base M ms ps val)
include W
theorem Way.no_laid {i : Nat} (hi : i < l.length) (h : (ps (i + 1)).ls = (ps i).ls) : ∀ x ∈ (ps l.length).ls, x.i ≠ i := by
  intro x hx e
  obtain ⟨⟨t, h1, h2⟩, _⟩ := W.later (j := i + 1) l.length (by omega) (Nat.le_refl _)
  rw [h1, List.mem_append] at hx
  rcases hx with hx | hx
  · have := h2 x hx; omega
  · rw [h] at hx
    have := ((W.ls i (by omega)).1 x hx).1
    omega
theorem Way.id_eq {x : Laid} (hx : x ∈ (ps l.length).ls) : x.id = base + x.i ∧ x.i < l.length := by
  have := (W.ls l.length (Nat.le_refl _)).1 x hx
  exact ⟨this.2, this.1⟩
theorem Way.uniq {x y : Laid} (hx : x ∈ (ps l.length).ls) (hy : y ∈ (ps l.length).ls) (h : x.id = y.id) : x = y :=
  (W.ls l.length (Nat.le_refl _)).2 x y hx hy (by have := (W.id_eq hx).1; have := (W.id_eq hy).1; omega)
theorem Way.stD_laid {x : Laid} (hx : x ∈ (ps l.length).ls) (hD : D x.i = true) (hsp : tb (ps j).k.sp x.i = false) : (stD l ps D j).h.get x.id = some x.ob :=
  layF_new _ _ x (fun y hy e => W.uniq hy hx e) hx (by simp [hD, hsp])
theorem Way.stD_ins {i : Nat} (hn : ∀ x ∈ (ps l.length).ls, x.i ≠ i) : ∀ id o, (stD l ps (ins D i) j).h.get id = some o → (stD l ps D j).h.get id = some o := by
  intro id o h
  rcases layF_get _ _ _ _ h with ⟨x, hx, h1, h2, h3⟩ | ⟨h1, h2⟩
  · rw [Bool.and_eq_true, ins_ne (hn x hx)] at h3
    subst h1; subst h2
    exact W.stD_laid hx h3.1 (by simpa using h3.2)
  · rw [← h2]
    refine layF_old _ _ _ fun x hx e => ?_
    have := h1 x hx e
    rw [ins_ne (hn x hx)] at this
    exact this
theorem Way.not_hv {i : Nat} (hi : i < l.length) (h : (ps (i + 1)).k = (ps i).k) : ¬ Hv ps i := by
  unfold Hv
  rw [h, W.hm_self (by omega)]; simp
/-- The heap before which an operation stands lies in the whole. -/
theorem Way.sub (hI : Inv τ l base M ps val ρ0 s0 w0 D A w ρ j) {m : Nat} (hm : ∀ k, tb m k = true → D k = true) {ls : List Laid} (hls : ∀ x ∈ ls, x ∈ (ps l.length).ls) :
    ∀ id o, (withLaid m (ps j).k.sp ls (ps j).k.s.h).get id = some o → (stD l ps D j).h.get id = some o := by
  intro id o h
  rw [withLaid_eq] at h
  rcases layF_get _ _ _ _ h with ⟨x, hx, h1, h2, h3⟩ | ⟨h1, h2⟩
  · rw [Bool.and_eq_true] at h3
    subst h1; subst h2
    exact W.stD_laid (hls x hx) (hm _ h3.1) (by simpa using h3.2)
  · rw [← h2]
    refine layF_old _ _ _ fun x hx e => ?_
    obtain ⟨e1, e2⟩ := W.id_eq hx
    cases hsp : tb (ps j).k.sp x.i with
    | true => simp
    | false =>
      have := hI.hn x.i e2 hsp
      rw [← e1, e, h2] at this; cases this
theorem Way.rest (hI : Inv τ l base M ps val ρ0 s0 w0 D A w ρ j) {sS : St} (hh : ∀ id o, (ps j).k.s.h.get id = some o → sS.h.get id ≠ none) :
    ∀ id o, (stD l ps D j).h.get id = some o → sS.h.get id = none → twinOf (some o) = none := by
  have _ := W
  intro id o h hn
  rcases layF_get _ _ _ _ h with ⟨x, hx, h1, h2, h3⟩ | ⟨_, h2⟩
  · rw [Bool.and_eq_true] at h3
    subst h2
    exact hI.tw x hx h3.1
  · exact absurd hn (hh id o h2)
omit W in
theorem layF_some {D : Nat → Bool} : ∀ (ls : List Laid) (h : PT Ob) (id : Nat) (o : Ob), h.get id = some o → (layF D ls h).get id ≠ none := by
  intro ls
  induction ls with
  | nil => intro h id o hg; show h.get id ≠ none; rw [hg]; simp
  | cons l ls ih =>
    intro h id o hg
    show (if D l.i then layF D ls (h.set l.id l.ob) else layF D ls h).get id ≠ none
    split
    · by_cases e : id = l.id
      · exact ih _ _ l.ob (by rw [PT.get_set, if_pos e])
      · exact ih _ _ o (by rw [PT.get_set, if_neg e]; exact hg)
    · exact ih _ _ o hg
/-- What is no heavy operation: the invariant goes on. -/
theorem Way.inv (hI : Inv τ l base M ps val ρ0 s0 w0 D A w ρ j) {i : Nat} {o : Oper} (ho : l[i]? = some o) (hi : D i = false) (hm : ∀ k, tb (M i) k = true → D k = true) (hnh : ¬ Hv ps i) {ρ' : Ro} {w' : World} {u : Value}
    (hle : Le ρ ρ') (hρ : ∀ k, k < l.length → k ≠ i → ρ' (base + k) = ρ (base + k)) (hni : (∀ x ∈ (ps l.length).ls, x.i ≠ i) → ρ' (base + i) = none) (htw : ∀ x ∈ (ps l.length).ls, x.i = i → twinOf (some x.ob) = none)
    (hsim : Sim τ ρ' (stD l ps (ins D i) j) w') (hlat : Lat ρ0 s0 w0 ρ' (stD l ps (ins D i) j) w') (hr : Rel τ ρ' (val i) u) : Inv τ l base M ps val ρ0 s0 w0 (ins D i) (A.put o.dst u) w' ρ' j := by
  have hil := (List.getElem?_eq_some_iff.1 ho).1
  obtain ⟨h1, h2⟩ := W.env_put hI ho hi hle hr
  refine ⟨W.closed_ins hI.closed hm, fun k hk => ?_, ⟨hI.stage.1, fun h hh hv => ?_⟩, fun k hk => ins_of (hI.sp k hk), fun k hk hD => ?_, fun k hk hn => ?_, hI.hn, fun x hx hD => ?_, hsim, hlat, h1, h2, hI.nx⟩
  · by_cases e : k = i
    · omega
    · rw [ins_ne e] at hk; exact hI.low k hk
  · have : h ≠ i := fun e => by subst e; exact hnh hv
    rw [ins_ne this]; exact hI.stage.2 h hh hv
  · have : k ≠ i := fun e => by subst e; rw [ins_self] at hD; cases hD
    rw [ins_ne this] at hD
    rw [hρ k hk this]; exact hI.free k hk hD
  · by_cases e : k = i
    · subst e; exact hni hn
    · rw [hρ k hk e]; exact hI.non k hk hn
  · by_cases e : x.i = i
    · exact htw x hx e
    · rw [ins_ne e] at hD; exact hI.tw x hx hD
/-- The link of a heavy operation. -/
theorem Way.heavy_mask {i : Nat} (hi : i < l.length) (h : Hv ps i) : ∀ k, tb (ps i).k.hm k = true → tb (M i) k = true := by
  obtain ⟨o, ho⟩ : ∃ o, l[i]? = some o := ⟨l[i], by simp⟩
  have hs := W.step i o ho
  unfold Hv at h
  have hself := W.hm_self (k := i) (by omega)
  generalize ps (i + 1) = p' at hs h
  generalize val i = v at hs
  cases hs with
  | skip hw ha hp => subst hp; rw [hself] at h; cases h
  | quiet hw hk hx ha hp => subst hp; rw [hself] at h; cases h
  | alloc hw hk hx ha hp => subst hp; rw [hself] at h; cases h
  | heavy hw hk hm hx ha hp => exact fun k hk => land_sub hm hk
theorem Way.link_at (hI : Inv τ l base M ps val ρ0 s0 w0 D A w ρ j) {i : Nat} (hi : i < l.length) (hDi : D i = false) (hm : ∀ k, tb (M i) k = true → D k = true) (hv : Hv ps i) :
    (∀ h, h < l.length → Hv ps h → (D h = true ↔ h < i)) ∧ (ps j).k = (ps i).k := by
  have h1 : ∀ h, h < l.length → Hv ps h → (D h = true ↔ h < i) := by
    intro h hh hvh
    constructor
    · intro hD
      rcases Nat.lt_trichotomy h i with hlt | heq | hgt
      · exact hlt
      · subst heq; rw [hDi] at hD; cases hD
      · have := W.heavy_mask hh hvh i ((W.hm h (by omega) i).2 ⟨hgt, hv⟩)
        have := hI.closed h hh hD i this
        rw [hDi] at this; cases this
    · intro hlt
      exact hm h (W.heavy_mask hi hv h ((W.hm i (by omega) h).2 ⟨hlt, hvh⟩))
  refine ⟨h1, ?_⟩
  have h2 : ∀ h, h < l.length → Hv ps h → (h < j ↔ h < i) := fun h hh hvh => (hI.stage.2 h hh hvh).symm.trans (h1 h hh hvh)
  rcases Nat.le_total j i with hji | hij
  · refine (W.link_same i hji (by omega) fun h a b hvh => ?_).symm
    have := (h2 h (by omega) hvh).2 b
    omega
  · have hjl := hI.stage.1
    refine W.link_same j hij hjl fun h a b hvh => ?_
    have := (h2 h (by omega) hvh).1 b
    omega
end
end Go.Hb

/-
  A region that draws its order: one operation, the join.
-/
namespace Go.Hb
open Go Go.Lib
variable {P : Program} {τ : Nat → Value} {X : FuncId → Option Ext} {rc : Task → Res}
variable {l : List Oper} {base : Nat} {M : Nat → Nat} {ms : List Nat} {ps : Nat → Prog} {val : Nat → AV}
variable {ρ0 : Ro} {s0 : St} {w0 : World} {D : Nat → Bool} {A : Act} {w : World} {ρ : Ro} {j : Nat} {F : Fence} {n : Nat}

theorem quietLinks_mem {HM : Nat} {ls : List Laid} {q : Quiet} : ∀ {ks : List Link} {k : Link}, quietLinks P HM ls q ks = true → k ∈ ks → quietAt P HM ls q k = true := by
  intro ks
  induction ks with
  | nil => intro k _ h; cases h
  | cons x ks ih =>
    intro k h hk
    have h : (match quietAt P HM ls q x with
      | true => quietLinks P HM ls q ks
      | false => false) = true := h
    split at h <;> first | (cases h; done) | skip
    rename_i hx
    cases hk with
    | head => exact hx
    | tail _ hk => exact ih h hk
theorem quietAll_mem {HM : Nat} {ls : List Laid} {ks : List Link} : ∀ {qs : List Quiet} {q : Quiet} {k : Link}, quietAll P HM ls ks qs = true → q ∈ qs → k ∈ ks → quietAt P HM ls q k = true := by
  intro qs
  induction qs with
  | nil => intro q k _ h; cases h
  | cons x qs ih =>
    intro q k h hq hk
    have h : (match quietLinks P HM ls x ks with
      | true => quietAll P HM ls ks qs
      | false => false) = true := h
    split at h <;> first | (cases h; done) | skip
    rename_i hx
    cases hq with
    | head => exact quietLinks_mem hx hk
    | tail _ hq => exact ih h hq hk
section
variable (W : Way P X rc l base M ms ps val) (E : Env P τ X) (S : Sound P τ rc) (hF : FW F)
  (hq : (ps l.length).ks = [] ∨ quietAll P (ps l.length).k.hm (ps l.length).ls ((ps l.length).k :: (ps l.length).ks) (ps l.length).qs = true)
  (hb : s0.nx = base) (hI : Inv τ l base M ps val ρ0 s0 w0 D A w ρ j) {i : Nat} {o : Oper} (ho : l[i]? = some o) (hi : D i = false) (hm : ∀ k, tb (M i) k = true → D k = true)
  {K : Act → World → Prop} {Q : Exit → Act → World → Prop} (hK : ∀ A' w' ρ' j', Inv τ l base M ps val ρ0 s0 w0 (ins D i) A' w' ρ' j' → K A' w')
include W E S hF hq hb hI ho hi hm hK
theorem Way.op : (wantedA l (ps i).a.env o = true → o.wpIn F n P A w K Q) ∧ (wantedA l (ps i).a.env o = false → K (A.put o.dst undef) w) := by
  have hil := (List.getElem?_eq_some_iff.1 ho).1
  have hs := W.step i o ho
  have hag := W.agree hI.closed ho hi hm
  have hopd : ∀ x ∈ o.op.operands, opd (envD (dstOf l) val (ps 0).a.env D l.length) x = opd (ps i).a.env x := fun x hx => opd_get fun t ht => hag t (reads_operand (by rw [← ht]; exact hx))
  have hlater := W.later (j := i) l.length (by omega) (Nat.le_refl _)
  have hlater1 := W.later (j := i + 1) l.length (by omega) (Nat.le_refl _)
  have hsubls : ∀ x ∈ (ps i).ls, x ∈ (ps l.length).ls := fun x hx => by
    obtain ⟨⟨t, ht, _⟩, _⟩ := hlater
    rw [ht]; exact List.mem_append_right _ hx
  generalize hp1 : ps (i + 1) = p1 at hs
  generalize hv : val i = v at hs
  cases hs with
  | skip hw ha hp =>
    refine ⟨fun h => (by rw [hw] at h; cases h), fun _ => ?_⟩
    have hno := W.no_laid hil (by rw [hp1, hp])
    have hnh := W.not_hv hil (by rw [hp1, hp])
    obtain ⟨a1, b1⟩ := sim_less hI.sim (W.stD_ins (j := j) hno) rfl
    exact hK _ _ ρ j (W.inv hI ho hi hm hnh (Le.refl _) (fun _ _ _ => rfl) (fun h => hI.non i hil h) (fun x hx e => absurd e (hno x hx)) a1 (hI.lat.trans b1) (by rw [hv]; exact undef_rel))
  | quiet hw hk hx ha hp =>
    rename_i a' s1
    refine ⟨fun _ => ?_, fun h => (by rw [hw] at h; cases h)⟩
    have hno := W.no_laid hil (by rw [hp1, hp])
    have hnh := W.not_hv hil (by rw [hp1, hp])
    -- the heap at which it was looked at
    have key : ∃ sS : St, xop P o.op (ps i).a.env sS = .val v sS ∧ (∀ id o, sS.h.get id = some o → (stD l ps D j).h.get id = some o) ∧ sS.nx = (ps j).k.s.nx ∧ (∀ id o, (ps j).k.s.h.get id = some o → sS.h.get id ≠ none) := by
      rcases hq with hks | hqa
      · have e1 := hlater.2.2.2 hks
        have e2 := (W.later (j := j) l.length hI.stage.1 (Nat.le_refl _)).2.2.2 hks
        have e : (ps i).k = (ps j).k := e1.symm.trans e2
        refine ⟨stOf (M i) (ps i), ?_, ?_, ?_, ?_⟩
        · have := quiet_val hk hx
          rw [hx, this]
        · show ∀ id o, (withLaid (M i) (ps i).k.sp (ps i).ls (ps i).k.s.h).get id = some o → _
          rw [e]; exact W.sub hI hm hsubls
        · show (ps i).k.s.nx = _; rw [e]
        · intro id o hg
          show (withLaid (M i) (ps i).k.sp (ps i).ls (ps i).k.s.h).get id ≠ none
          rw [withLaid_eq]
          refine layF_some _ _ id o ?_
          rw [e]; exact hg
      · have hmem : (⟨i, M i, o.op, (ps i).a.env, v⟩ : Quiet) ∈ (ps l.length).qs := hlater1.2.1 _ (by rw [hp1, hp]; exact List.mem_cons_self)
        have hlk := (W.later (j := j) l.length hI.stage.1 (Nat.le_refl _)).2.2.1 (ps j).k List.mem_cons_self
        have := quietAll_mem hqa hmem hlk
        unfold quietAt at this
        have hadm : Nat.beq (Nat.land (Nat.land (M i) (ps l.length).k.hm) (ps j).k.hm) (Nat.land (M i) (ps l.length).k.hm) = true := land_all fun h hh => by
          rw [tb_land, Bool.and_eq_true] at hh
          obtain ⟨c1, c2⟩ := (W.hm l.length (Nat.le_refl _) h).1 hh.2
          exact (W.hm j hI.stage.1 h).2 ⟨(hI.stage.2 h c1 c2).1 (hm h hh.1), c2⟩
        have hspi : tb (ps j).k.sp i = false := by
          cases hc : tb (ps j).k.sp i with
          | false => rfl
          | true => have := hI.sp i hc; rw [hi] at this; cases this
        simp only [hadm, hspi] at this
        refine ⟨⟨withLaid (M i) (ps j).k.sp (ps l.length).ls (ps j).k.s.h, (ps j).k.s.nx⟩, ?_, W.sub hI hm (fun x hx => hx), rfl, ?_⟩
        · unfold sameVal at this
          split at this <;> first | (cases this; done) | skip
          rename_i u s2 hx2
          have h1 := quiet_val hk hx2
          have h2 := eqAV_eq _ _ this
          rw [hx2, h1, h2]
        · intro id o hg
          show (withLaid (M i) (ps j).k.sp (ps l.length).ls (ps j).k.s.h).get id ≠ none
          rw [withLaid_eq]
          exact layF_some _ _ id o hg
    obtain ⟨sS, hxS, hsub, hnx, hh⟩ := key
    have c : Ctx τ ρ (envD (dstOf l) val (ps 0).a.env D l.length) (ps 0).a.nt sS w A := ⟨E.plain, (sim_less hI.sim hsub hnx).1, hI.env⟩
    refine op_core E S hF c (v := v) (s' := sS) (by rw [xop_congr hopd, hxS]; exact .val) fun u ρ' w' hrel hS' hL => ?_
    have hle := hL.le c.sim
    obtain ⟨⟨a1, b1⟩, _⟩ := extend (sR := stD l ps (ins D i) j) hI.sim hS' hL hsub (W.rest hI hh) hnx (fun id ob hg => by
      have h1 := W.stD_ins (j := j) hno id ob hg
      cases h2 : sS.h.get id with
      | none => exact .inr ⟨h1, rfl⟩
      | some o2 =>
        have := hsub id o2 h2
        rw [h1] at this; cases this
        exact .inl rfl) hnx.symm
    have hkeep : ∀ k, k < l.length → ρ' (base + k) = ρ (base + k) := fun k hk => hL.keep _ (by rw [hnx]; have := hI.nx; omega)
    exact hK _ _ ρ' j (W.inv hI ho hi hm hnh hle (fun k hk _ => hkeep k hk) (fun h => by rw [hkeep i hil]; exact hI.non i hil h) (fun x hx e => absurd e (hno x hx)) a1 (hI.lat.trans b1) (by rw [hv]; exact hrel))
  | alloc hw hk hx ha hp =>
    rename_i a' r
    refine ⟨fun _ => ?_, fun h => (by rw [hw] at h; cases h)⟩
    have hnh := W.not_hv hil (by rw [hp1, hp])
    have hxl : (⟨i, base + i, r.1⟩ : Laid) ∈ (ps l.length).ls := by
      obtain ⟨⟨t, ht, _⟩, _⟩ := hlater1
      rw [ht, hp1, hp]; exact List.mem_append_right _ List.mem_cons_self
    have c : Ctx τ ρ (envD (dstOf l) val (ps 0).a.env D l.length) (ps 0).a.nt (stD l ps D j) w A := ⟨E.plain, hI.sim, hI.env⟩
    obtain ⟨htw, hfx, hrun⟩ := allocOb_ok (P := P) c (o := o) (ob := r.1) (vf := r.2) (by rw [allocOb_congr hopd]; exact hx)
    obtain ⟨u, w', obj, nn, hrun, hheap, htp, hos, hout, hrel⟩ := hrun w
    have hfree := hI.free i hil hi
    have hle : Le ρ (upd ρ (base + i) ⟨w.heap.size, 0, nn⟩) := fun k q e => by
      rw [upd_ne (by intro e'; subst e'; rw [hfree] at e; cases e)]; exact e
    obtain ⟨hr1, hr2⟩ := hrel (upd ρ (base + i) ⟨w.heap.size, 0, nn⟩) (base + i) hle (upd_same _ _ _)
    have hspi : tb (ps j).k.sp i = false := by
      cases hc : tb (ps j).k.sp i with
      | false => rfl
      | true => have := hI.sp i hc; rw [hi] at this; cases this
    have hnx := hI.nx
    obtain ⟨a1, b1⟩ := sim_at (sR := stD l ps (ins D i) j) (pl := ⟨w.heap.size, 0, nn⟩) hI.sim hI.lat hfree (by show base + i < (ps j).k.s.nx; omega) (by omega) hheap htp hos hout rfl hr2 (fun id ob hg => by
      rcases layF_get _ _ _ _ hg with ⟨x, hx, h1, h2, h3⟩ | ⟨h1, h2⟩
      · rw [Bool.and_eq_true] at h3
        by_cases e : x.i = i
        · have := W.uniq hx hxl (by rw [(W.id_eq hx).1, e])
          subst this
          exact .inl ⟨h1.symm, h2.symm⟩
        · have hidx := (W.id_eq hx).1
          rw [ins_ne e] at h3
          refine .inr ⟨by omega, ?_⟩
          subst h1; subst h2
          exact W.stD_laid hx h3.1 (by simpa using h3.2)
      · have hne : id ≠ base + i := fun e => by
          have := h1 _ hxl e.symm
          simp only [ins_self, hspi] at this
          cases this
        refine .inr ⟨hne, ?_⟩
        rw [← h2]
        refine layF_old _ _ _ fun x hx e => ?_
        have h4 := h1 x hx e
        cases hD : D x.i with
        | false => rfl
        | true => rw [ins_of hD] at h4; exact h4) rfl
    refine ⟨fun f _ => hF.fn f, ?_⟩
    rw [Oper.semAt_eq _ _ _ (fun c => (alloc_bad hk c).1), hrun, Oper.uponIn_value]
    exact hK _ _ _ j (W.inv hI ho hi hm hnh hle (fun k hk hne => upd_ne (by omega) _) (fun h => absurd rfl (h _ hxl)) (fun x hx e => by
      have := W.uniq hx hxl (by rw [(W.id_eq hx).1, e])
      subst this; exact htw) a1 b1 (by rw [hv]; exact hr1))
  | heavy hw hk hmm hx ha hp =>
    rename_i a' s1
    refine ⟨fun _ => ?_, fun h => (by rw [hw] at h; cases h)⟩
    have hno := W.no_laid hil (by rw [hp1, hp])
    have hvi : Hv ps i := by
      unfold Hv
      rw [hp1, hp]
      show tb (Nat.lor _ (bit i)) i = true
      rw [tb_lor, tb_bit]; simp
    obtain ⟨hst, hlink⟩ := W.link_at hI hil hi hm hvi
    have hsub : ∀ id o, (stOf (M i) (ps i)).h.get id = some o → (stD l ps D j).h.get id = some o := by
      show ∀ id o, (withLaid (M i) (ps i).k.sp (ps i).ls (ps i).k.s.h).get id = some o → _
      rw [← hlink]; exact W.sub hI hm hsubls
    have hnx : (stOf (M i) (ps i)).nx = (stD l ps D j).nx := by show (ps i).k.s.nx = (ps j).k.s.nx; rw [hlink]
    have hh : ∀ id o, (ps j).k.s.h.get id = some o → (stOf (M i) (ps i)).h.get id ≠ none := fun id o hg => by
      show (withLaid (M i) (ps i).k.sp (ps i).ls (ps i).k.s.h).get id ≠ none
      rw [withLaid_eq]
      refine layF_some _ _ id o ?_
      rw [← hlink]; exact hg
    have c : Ctx τ ρ (envD (dstOf l) val (ps 0).a.env D l.length) (ps 0).a.nt (stOf (M i) (ps i)) w A := ⟨E.plain, (sim_less hI.sim hsub hnx).1, hI.env⟩
    refine op_core E S hF c (v := v) (s' := s1) (by rw [xop_congr hopd]; exact hx) fun u ρ' w' hrel hS' hL => ?_
    have hle := hL.le c.sim
    have hk1 : (ps (i + 1)).k = ⟨s1, Nat.lor (ps j).k.hm (bit i), Nat.lor (ps j).k.sp (M i)⟩ := by rw [hp1, hp, hlink]
    have hnone : ∀ k, k < l.length → tb (ps j).k.sp k = false → tb (M i) k = false → (stOf (M i) (ps i)).h.get (base + k) = none := fun k hk h1 h2 => by
      show (withLaid (M i) (ps i).k.sp (ps i).ls (ps i).k.s.h).get (base + k) = none
      rw [withLaid_eq, layF_old, ← hlink]
      · exact hI.hn k hk h1
      · intro x hx e
        have := (W.id_eq (hsubls x hx)).1
        have : x.i = k := by omega
        rw [this, h2]; rfl
    obtain ⟨⟨a1, b1⟩, hgone⟩ := extend (sR := stD l ps (ins D i) (i + 1)) hI.sim hS' hL hsub (W.rest hI hh) hnx (fun id ob hg => by
      rcases layF_get _ _ _ _ hg with ⟨x, hx, h1, h2, h3⟩ | ⟨h1, h2⟩
      · rw [Bool.and_eq_true, ins_ne (hno x hx), hk1] at h3
        obtain ⟨h3, h4⟩ := h3
        have h4 : (!tb (Nat.lor (ps j).k.sp (M i)) x.i) = true := h4
        rw [tb_lor] at h4
        simp only [Bool.not_eq_true', Bool.or_eq_false_iff] at h4
        obtain ⟨e1, e2⟩ := W.id_eq hx
        subst h1; subst h2
        refine .inr ⟨W.stD_laid hx h3 h4.1, ?_⟩
        rw [e1]; exact hnone x.i e2 h4.1 h4.2
      · rw [hk1] at h2; exact .inl h2) (by show (ps (i + 1)).k.s.nx = s1.nx; rw [hk1])
    have hkeep : ∀ k, k < l.length → ρ' (base + k) = ρ (base + k) := fun k hk => hL.keep _ (by rw [hnx]; have := hI.nx; show base + k < (ps j).k.s.nx; omega)
    obtain ⟨e1, e2⟩ := W.env_put hI ho hi hle (by rw [hv]; exact hrel)
    refine hK _ _ ρ' (i + 1) ⟨W.closed_ins hI.closed hm, fun k hk => ?_, ⟨by omega, fun h hh hvh => ?_⟩, fun k hk => ?_, fun k hk hD => ?_, fun k hk hn => ?_, fun k hk hsp => ?_, fun x hx hD => ?_, a1, hI.lat.trans b1, e1, e2, ?_⟩
    · by_cases e : k = i
      · omega
      · rw [ins_ne e] at hk; exact hI.low k hk
    · by_cases e : h = i
      · subst e; rw [ins_self]; simp
      · rw [ins_ne e, hst h hh hvh]; omega
    · rw [hk1] at hk
      have hk : tb (Nat.lor (ps j).k.sp (M i)) k = true := hk
      rw [tb_lor, Bool.or_eq_true] at hk
      rcases hk with hk | hk
      · exact ins_of (hI.sp k hk)
      · exact ins_of (hm k hk)
    · have : k ≠ i := fun e => by subst e; rw [ins_self] at hD; cases hD
      rw [ins_ne this] at hD
      rw [hkeep k hk]; exact hI.free k hk hD
    · rw [hkeep k hk]; exact hI.non k hk hn
    · rw [hk1] at hsp ⊢
      have hsp : tb (Nat.lor (ps j).k.sp (M i)) k = false := hsp
      rw [tb_lor, Bool.or_eq_false_iff] at hsp
      show s1.h.get (base + k) = none
      by_cases hr : D k = true ∧ ∃ x ∈ (ps l.length).ls, x.i = k
      · obtain ⟨hD, x, hx, e⟩ := hr
        have e3 := (W.id_eq hx).1
        rw [e] at e3
        have := W.stD_laid (D := D) (j := j) hx (by rw [e]; exact hD) (by rw [e]; exact hsp.1)
        rw [e3] at this
        exact hgone _ _ this (hnone k hk hsp.1 hsp.2)
      · have hn : ρ (base + k) = none := by
          cases hD : D k with
          | false => exact hI.free k hk hD
          | true => exact hI.non k hk fun x hx e => hr ⟨hD, x, hx, e⟩
        cases hg : s1.h.get (base + k) with
        | none => rfl
        | some oj =>
          obtain ⟨q, hq', _⟩ := hS'.ob _ _ hg
          rw [hkeep k hk, hn] at hq'; cases hq'
    · have : x.i ≠ i := hno x hx
      rw [ins_ne this] at hD; exact hI.tw x hx hD
    · have h1 := hL.nx
      rw [hk1]
      show base + l.length ≤ s1.nx
      have h2 : (ps j).k.s.nx ≤ s1.nx := by rw [hnx] at h1; exact h1
      have := hI.nx
      omega
end
end Go.Hb

/-
  A region that draws its order: the law. The evaluator is sound.
-/
namespace Go.Hb
open Go Go.Lib
variable {P : Program} {τ : Nat → Value} {X : FuncId → Option Ext} {rc : Task → Res}
variable {l : List Oper} {base : Nat} {M : Nat → Nat} {ms : List Nat} {ps : Nat → Prog} {val : Nat → AV}
variable {ρ0 : Ro} {s0 : St} {w0 : World} {F : Fence} {n : Nat}

def inD (listed : Array Bool) : Nat → Bool := fun i => listed.getD i false
theorem inD_set {listed : Array Bool} {i : Nat} (h : i < listed.size) : inD (listed.setIfInBounds i true) = ins (inD listed) i := by
  funext k
  show (listed.setIfInBounds i true).getD k false = if k = i then true else listed.getD k false
  rw [Array.getD_eq_getD_getElem?, Array.getD_eq_getD_getElem?, Array.getElem?_setIfInBounds]
  by_cases e : i = k
  · subst e; simp [h]
  · rw [if_neg e, if_neg (fun e' => e e'.symm)]
theorem draw_all (ops : Array Oper) (W : Way P X rc ops.toList base M ms ps val) (E : Env P τ X) (S : Sound P τ rc) (hF : FW F)
    (hq : (ps ops.toList.length).ks = [] ∨ quietAll P (ps ops.toList.length).k.hm (ps ops.toList.length).ls ((ps ops.toList.length).k :: (ps ops.toList.length).ks) (ps ops.toList.length).qs = true)
    (hb : s0.nx = base) {Q : Exit → Act → World → Prop} (hQ : ∀ D A w ρ j, Inv τ ops.toList base M ps val ρ0 s0 w0 D A w ρ j → (∀ i, i < ops.size → D i = true) → Q .normal A w) :
    ∀ (fuel : Nat) (listed : Array Bool) (undone : List Nat) (A : Act) (w : World) (ρ : Ro) (j : Nat), listed.size = ops.size → Inv τ ops.toList base M ps val ρ0 s0 w0 (inD listed) A w ρ j →
      (∀ i, i < ops.size → inD listed i = false → i ∈ undone) → undone.length ≤ fuel → wpAnyIn F n P .any ops Q fuel listed A w := by
  have hlen : ops.toList.length = ops.size := by simp
  -- all is done when nothing is ready
  have done : ∀ (listed : Array Bool), listed.size = ops.size → Region.ready .any ops listed = [] → ∀ i, i < ops.size → inD listed i = true := by
    intro listed hsz hr i
    induction i using Nat.strongRecOn with
    | _ i ih =>
      intro hi
      cases hD : inD listed i with
      | true => rfl
      | false =>
        exfalso
        have : i ∈ Region.ready .any ops listed := by
          rw [mem_ready]
          refine ⟨?_, ops[i], by simp, fun e he hbd => ?_⟩
          · unfold inD at hD
            rw [Array.getD_eq_getD_getElem?] at hD ⊢
            have : listed[i]? = some listed[i] := by simp
            rw [this] at hD ⊢
            exact hD
          · have MO := W.mask i ops[i] (by simp)
            obtain ⟨h1, _⟩ := MO.edge e (by simpa using he) hbd
            exact ih e.on h1 (by omega)
        rw [hr] at this; cases this
  intro fuel
  induction fuel with
  | zero =>
    intro listed undone A w ρ j hsz hI hun hfu
    have hall : ∀ i, i < ops.size → inD listed i = true := fun i hi => by
      cases hD : inD listed i with
      | true => rfl
      | false =>
        have := hun i hi hD
        have h0 : undone = [] := List.eq_nil_of_length_eq_zero (by omega)
        rw [h0] at this; cases this
    refine ⟨?_, hQ _ _ _ _ _ hI hall⟩
    cases hr : Region.ready .any ops listed with
    | nil => rfl
    | cons k ks =>
      have hk : k ∈ Region.ready .any ops listed := by rw [hr]; exact List.mem_cons_self
      obtain ⟨h1, o, ho, _⟩ := mem_ready.1 hk
      have hlt := (Array.getElem?_eq_some_iff.1 ho).1
      have := hall k hlt
      unfold inD at this
      rw [Array.getD_eq_getD_getElem?] at this h1
      have h2 : listed[k]? = some listed[k] := by simp
      rw [h2] at this h1
      simp at this h1
      rw [this] at h1; cases h1
  | succ fuel ih =>
    intro listed undone A w ρ j hsz hI hun hfu
    refine ⟨fun hr => hQ _ _ _ _ _ hI (done listed hsz hr), fun i hi => ?_⟩
    obtain ⟨h1, o, ho, hall⟩ := mem_ready.1 hi
    have hlt := (Array.getElem?_eq_some_iff.1 ho).1
    have hD : inD listed i = false := by
      unfold inD
      rw [Array.getD_eq_getD_getElem?] at h1 ⊢
      have h2 : listed[i]? = some listed[i] := by simp
      rw [h2] at h1 ⊢
      exact h1
    have ho' : ops.toList[i]? = some o := by rw [Array.getElem?_toList]; exact ho
    have hm : ∀ k, tb (M i) k = true → inD listed k = true := fun k hk => by
      have MO := W.mask i o ho'
      obtain ⟨e, he, hbd, hor⟩ := MO.only k hk
      have h3 : inD listed e.on = true := hall e (by simpa using he) hbd
      have h4 := (MO.edge e he hbd).1
      rcases hor with rfl | ⟨me, hme, hj⟩
      · exact h3
      · have := W.get e.on (by omega)
        rw [this] at hme; cases hme
        exact hI.closed e.on (by omega) h3 k hj
    have hK : ∀ A' w' ρ' j', Inv τ ops.toList base M ps val ρ0 s0 w0 (ins (inD listed) i) A' w' ρ' j' → wpAnyIn F n P .any ops Q fuel (listed.setIfInBounds i true) A' w' := by
      intro A' w' ρ' j' hI'
      refine ih (listed.setIfInBounds i true) (undone.erase i) A' w' ρ' j' (by simp [hsz]) (by rw [inD_set (by omega)]; exact hI') (fun k hk hDk => ?_) ?_
      · rw [inD_set (by omega)] at hDk
        have hne : k ≠ i := fun e => by subst e; rw [ins_self] at hDk; cases hDk
        rw [ins_ne hne] at hDk
        exact (List.mem_erase_of_ne hne).2 (hun k hk hDk)
      · rw [List.length_erase_of_mem (hun i hlt hD)]; omega
    have hstep := W.op (n := n) (Q := Q) E S hF hq hb hI ho' hD hm hK
    have hw : Region.wanted o (yielded ops A.tmps) = wantedA ops.toList (ps i).a.env o :=
      (wanted_eq E.nb hI.env ops o).trans (wanted_congr (W.agree hI.closed ho' hD hm))
    unfold wpOpIn
    simp only [ho, hw]
    split
    · rename_i h; exact hstep.1 h
    · rename_i h; exact ⟨fun f _ => hF.fn f, hstep.2 (by simpa using h)⟩
theorem draw_ok (E : Env P τ X) (rc : Task → Res) (S : Sound P τ rc) : DrawOk P τ X rc := by
  intro id ops a s ρ w A F m hF hS hA hi
  generalize hr : regDraw P X rc ops.toList a s = r at hi ⊢
  unfold regDraw at hr
  split at hr <;> first | (subst hr; exact hi.elim) | skip
  rename_i p hp
  replace hp := oB_eq hp; obtain ⟨ms, hplan, hp⟩ := hp
  obtain ⟨M, ps, val, W, h0, h1⟩ := way_of hplan hp ⟨rfl, rfl, rfl, rfl⟩
  have hres : r = .nrm p.a ⟨withAll p.k.sp p.ls p.k.s.h, p.k.s.nx⟩ ∧ (p.ks = [] ∨ quietAll P p.k.hm p.ls (p.k :: p.ks) p.qs = true) := by
    unfold drawEnd at hr
    split at hr
    · exact ⟨hr.symm, .inl (by assumption)⟩
    · split at hr
      · exact ⟨hr.symm, .inr (by assumption)⟩
      · subst hr; exact hi.elim
  obtain ⟨rfl, hq⟩ := hres
  have hlen : len ops.toList = ops.toList.length := len_eq _
  have hs0h : ∀ k, s.h.get (s.nx + k) = none := fun k => by
    cases hg : s.h.get (s.nx + k) with
    | none => rfl
    | some o =>
      obtain ⟨pl, hpl, _⟩ := hS.ob _ _ hg
      rw [hS.top _ (by omega)] at hpl; cases hpl
  let w1 : World := { w with drawn := w.drawn + 1 }
  have hI : Inv τ ops.toList s.nx M ps val ρ s w (inD (Array.replicate ops.size false)) A w1 ρ 0 := by
    have hD : ∀ i, inD (Array.replicate ops.size false) i = false := fun i => by
      unfold inD
      rw [Array.getD_eq_getD_getElem?, Array.getElem?_replicate]
      split <;> rfl
    have hk0 : (ps 0).k = ⟨⟨s.h, Nat.add s.nx (len ops.toList)⟩, 0, 0⟩ := by rw [h0]
    have hst : ∀ id, (stD ops.toList ps (inD (Array.replicate ops.size false)) 0).h.get id = s.h.get id := fun id => by
      show (layF _ _ (ps 0).k.s.h).get id = _
      rw [layF_old _ _ _ (fun x _ _ => by rw [hD]; rfl), hk0]
    have hnx : (stD ops.toList ps (inD (Array.replicate ops.size false)) 0).nx = s.nx + ops.toList.length := by
      show (ps 0).k.s.nx = _
      rw [hk0, ← hlen]; rfl
    have hS1 : Sim τ ρ s w1 := hS.world rfl
    refine ⟨fun i _ h => (by rw [hD] at h; cases h), fun i h => (by rw [hD] at h; cases h), ⟨Nat.zero_le _, fun h _ _ => by rw [hD]; simp⟩, fun k hk => ?_, fun k _ _ => hS.top _ (by omega), fun k _ _ => hS.top _ (by omega), fun k _ _ => ?_, fun x _ h => (by rw [hD] at h; cases h), ?_, ?_, ?_, ?_, ?_⟩
    · rw [hk0] at hk
      have hk : tb 0 k = true := hk
      rw [tb_zero] at hk; cases hk
    · rw [hk0]; exact hs0h k
    · exact ⟨fun i o hg => hS1.ob i o (by rw [← hst]; exact hg), fun i j oi oj p q hij hi hj => hS1.sep i j oi oj p q hij (by rw [← hst]; exact hi) (by rw [← hst]; exact hj), fun i hi => hS1.top i (by omega), hS1.glob⟩
    · exact ⟨by omega, fun _ _ => rfl, fun _ _ _ => rfl, fun i o q hg hq' => .inl ⟨i, o, q, by rw [← hst]; exact hg, hq', rfl, fun x => x⟩, Nat.le_refl _, rfl, rfl, rfl⟩
    · have he : ∀ k, envD (dstOf ops.toList) val (ps 0).a.env (inD (Array.replicate ops.size false)) k = (ps 0).a.env := fun k => by
        induction k with
        | zero => rfl
        | succ k ih => show (if inD _ k then _ else _ : PT AV) = _; rw [hD, if_neg (by simp)]; exact ih
      rw [he, h0]; exact hA.env
    · rw [h0]; exact hA.df
    · rw [hk0, ← hlen]; exact Nat.le_refl _
  refine wpIn_region_any E.mixed ?_
  refine draw_all ops W E S hF (by rw [h1]; exact hq) rfl ?_ ops.size _ (List.range ops.size) A w1 ρ 0 (by simp) hI (fun i hi _ => List.mem_range.2 hi) (by simp)
  intro D A' w' ρ' j hI' hall
  have hall' : ∀ i, i < ops.toList.length → D i = true := fun i hi => hall i (by simpa using hi)
  have hkk : (ps j).k = p.k := by
    rw [← h1]
    refine (W.link_same ops.toList.length hI'.stage.1 (Nat.le_refl _) fun i a b hv => ?_).symm
    have := (hI'.stage.2 i b hv).1 (hall' i b)
    omega
  have hsub : ∀ id o, (withAll p.k.sp p.ls p.k.s.h).get id = some o → (stD ops.toList ps D j).h.get id = some o := by
    intro id o hg
    show (layF (fun i => D i && !tb (ps j).k.sp i) (ps ops.toList.length).ls (ps j).k.s.h).get id = some o
    rw [withAll_eq] at hg
    rw [h1, hkk]
    rcases layF_get _ _ _ _ hg with ⟨x, hx, e1, e2, e3⟩ | ⟨e1, e2⟩
    · have hx' : x ∈ (ps ops.toList.length).ls := by rw [h1]; exact hx
      have := W.stD_laid (D := D) (j := j) hx' (hall' _ (W.id_eq hx').2) (by rw [hkk]; simpa using e3)
      rw [← e1, ← e2]
      have h5 : (layF (fun i => D i && !tb (ps j).k.sp i) (ps ops.toList.length).ls (ps j).k.s.h).get x.id = some x.ob := this
      rw [h1, hkk] at h5
      exact h5
    · rw [layF_old _ _ _ (fun x hx e => by rw [e1 x hx e, Bool.and_false])]; exact e2
  obtain ⟨a1, b1⟩ := sim_less (s' := ⟨withAll p.k.sp p.ls p.k.s.h, p.k.s.nx⟩) hI'.sim hsub (by show p.k.s.nx = (ps j).k.s.nx; rw [hkk])
  have hact := W.act ops.toList.length (Nat.le_refl _)
  rw [h1] at hact
  refine ⟨ρ', a1, hI'.lat.trans b1, ⟨?_, ?_⟩⟩
  · rw [hact.1, hact.2.1]
    refine hI'.env.congr fun t => ?_
    exact envD_same _ fun i hi _ => (hall' i hi).symm
  · rw [hact.2.2]; exact hI'.df
/-- **The evaluator is sound.** -/
theorem ev_sound (E : Env P τ X) (n : Nat) : Sound P τ (ev P X n) := ev_ok E (fun rc S => draw_ok E rc S) n
/-- A call, closed. -/
theorem calls_of_ev (E : Env P τ X) {n : Nat} {f : FuncId} {args : List AV} {us : List Value} {ρ : Ro} {s s' : St} {w : World} {v : AV} (h : ev P X n (.call f args s) = .val v s') (hS : Sim τ ρ s w) (hr : RelL τ ρ args us) :
    Calls P f ⟨us⟩ w (RQ τ ρ s w v s') := ((ev_sound E n).call h hS hr).2
end Go.Hb

/-
  The functions without a body that are answered at once.
-/
namespace Go.Hb
open Go Go.Lib
variable {P : Program} {τ : Nat → Value} {ρ : Ro} {s s' : St} {w : World} {v : AV}

theorem idxB_eq (c : Nat) (hc : c ≤ 255) : ∀ (l : List UInt8) (i : Nat), idxB c (l.map UInt8.toNat) i = if indexByte l (Int.toNat (Int.ofNat c)).toUInt8 = -1 then -1 else indexByte l (Int.toNat (Int.ofNat c)).toUInt8 + i := by
  intro l
  induction l with
  | nil => intro i; rfl
  | cons b l ih =>
    intro i
    have hcc : ((Int.toNat (Int.ofNat c)).toUInt8).toNat = c := by simp; omega
    have hbc : (b == (Int.toNat (Int.ofNat c)).toUInt8) = decide (b.toNat = c) := by
      rw [Bool.eq_iff_iff, beq_iff_eq, decide_eq_true_eq, ← UInt8.toNat_inj, hcc]
    show (match Nat.beq b.toNat c with
      | true => (.ofNat i : Int)
      | false => idxB c (l.map UInt8.toNat) (Nat.succ i)) = _
    unfold indexByte
    rw [natBeq_eq, hbc]
    by_cases h : b.toNat = c
    · simp only [h, decide_true, if_true]
      rw [if_neg (by decide)]; simp
    · simp only [h, decide_false, Bool.false_eq_true, if_false]
      rw [ih]
      have := indexByte_ge l (Int.toNat (Int.ofNat c)).toUInt8
      by_cases h1 : indexByte l (Int.toNat (Int.ofNat c)).toUInt8 = -1
      · rw [h1]; rfl
      · have h2 : (indexByte l (Int.toNat (Int.ofNat c)).toUInt8 == -1) = false := by simpa using h1
        rw [if_neg h1, h2]
        simp only [Bool.false_eq_true, if_false]
        rw [if_neg (by omega)]
        simp; omega
theorem cntB_eq (c : Nat) (hc : c ≤ 255) : ∀ (l : List UInt8) (n : Nat), cntB c (l.map UInt8.toNat) n = n + countByte l (Int.toNat (Int.ofNat c)).toUInt8 := by
  intro l
  induction l with
  | nil => intro n; rfl
  | cons b l ih =>
    intro n
    have hcc : ((Int.toNat (Int.ofNat c)).toUInt8).toNat = c := by simp; omega
    have hbc : (b == (Int.toNat (Int.ofNat c)).toUInt8) = decide (b.toNat = c) := by
      rw [Bool.eq_iff_iff, beq_iff_eq, decide_eq_true_eq, ← UInt8.toNat_inj, hcc]
    show (match Nat.beq b.toNat c with
      | true => cntB c (l.map UInt8.toNat) (Nat.succ n)
      | false => cntB c (l.map UInt8.toNat) n) = _
    unfold countByte at ih ⊢
    rw [natBeq_eq, List.count_cons, hbc]
    by_cases h : b.toNat = c
    · simp only [h, decide_true, if_true]; rw [ih]; omega
    · simp only [h, decide_false, Bool.false_eq_true, if_false]; rw [ih]; omega
/-- A function that the model answers. -/
def ExtFn (P : Program) (f : FuncId) (e : Array Value → Sem Value) : Prop := ∀ (args : Array Value) (w : World) (u : Value) (w' : World), (e args).run P w = .ok u w' → (callFunc f args).run P w = .ok (.value u) w'
theorem extFn_of {f : FuncId} {fn : Func} {e : Array Value → Sem Value} (hf : P.funcs[f]? = some fn) (hn : fn.name ≠ "runtime.NumGoroutine") (hb : fn.body = none) (h1 : Extern.findNext fn = none) (h2 : Extern.find fn = some e) : ExtFn P f e := by
  intro args w u w' h
  simp [callFunc, hf, hn, hb, h1, h2, h]
/-- What is said of a function without a body. -/
def ExtAt (P : Program) (f : FuncId) : Ext → Prop
  | .indexByte => ExtFn P f Extern.BytealgIndexByte.indexByte
  | .count => ExtFn P f Extern.BytealgCount.count
  | .makeNoZero t => ∃ ps st, P.underlying st = some (.slice t) ∧ ExtFn P f (Extern.BytealgMakeNoZero.makeNoZero ps #[st])
  | .same => ExtFn P f Extern.AbiNoEscape.same
theorem ext_ok {f : FuncId} {x : Ext} (hx : ExtAt P f x) {args : List AV} {us : List Value} (hS : Sim τ ρ s w) (hr : RelL τ ρ args us) (h : extA x args s = some (v, s')) :
    ∃ u w' ρ', (callFunc f ⟨us⟩).run P w = .ok (.value u) w' ∧ Rel τ ρ' v u ∧ Sim τ ρ' s' w' ∧ Lat ρ s w ρ' s' w' := by
  unfold extA at h
  split at h
  · rename_i b c
    split at h <;> first | (cases h; done) | skip
    rename_i hc
    rw [natBle_eq, decide_eq_true_eq] at hc
    cases h
    cases hr with | cons h1 t => cases t with | cons h2 t => cases t with | nil =>
    cases h1 with | str hs =>
    cases h2
    rename_i bs
    refine ⟨_, w, ρ, hx _ _ _ _ (run_indexByteString bs (Int.ofNat c) w), ?_, hS, .refl⟩
    rw [← hs, idxB_eq c hc]
    split
    · rename_i h; rw [h]; exact .int _ _
    · simpa using Rel.int _ _
  · rename_i b c
    split at h <;> first | (cases h; done) | skip
    rename_i hc
    rw [natBle_eq, decide_eq_true_eq] at hc
    cases h
    cases hr with | cons h1 t => cases t with | cons h2 t => cases t with | nil =>
    cases h1 with | str hs =>
    cases h2
    rename_i bs
    refine ⟨_, w, ρ, hx _ _ _ _ (run_countString bs (Int.ofNat c) w), ?_, hS, .refl⟩
    rw [← hs, cntB_eq c hc, Nat.zero_add]
    exact .int _ _
  · rename_i t n
    split at h <;> first | (cases h; done) | skip
    rename_i hn
    rw [natBle_eq, decide_eq_true_eq] at hn
    cases h
    cases hr with | cons h1 t => cases t with | nil =>
    cases h1
    obtain ⟨ps, st, hst, hfn⟩ := hx
    obtain ⟨cs, hrun, hle, _⟩ := run_makeNoZero (P := P) w ps st t hst n (by omega)
    have hSd : Sim τ ρ s w.drew.drew := hS.world rfl
    have hLd : Lat ρ s w ρ s w.drew.drew := .world rfl rfl rfl rfl
    obtain ⟨a1, b1⟩ := sim_new hSd (.cells cs t) (.row .lf 0 none 0 t) cs.size ⟨cs, (0, 0), alloc_new _ _, rfl, fun k v h => (by cases h), fun k _ => rfl, fun _ => ⟨rfl, rfl⟩, fun _ => .inl rfl⟩
    refine ⟨_, _, _, hfn _ _ _ _ hrun, ?_, a1, hLd.trans b1⟩
    exact .sl (upd_same _ _ _) (.inr rfl) hle (fun k hk => by cases hk) (.inr (by show 0 + cs.size * 1 ≤ cs.size; omega))
  · cases h
    cases hr with | cons h1 t => cases t with | nil =>
    cases h1 with | ptr hp =>
    exact ⟨_, w, ρ, hx _ _ _ _ rfl, .ptr hp, hS, .refl⟩
  · cases h
end Go.Hb

/-
  The first heap: package-level variables that read as literals; and what a call that the evaluator closes leaves of the world.
-/
namespace Go.Hb
open Go Go.Lib Go.RowKit
noncomputable section
variable {P : Program} {τ : Nat → Value}

/-! ### What a variable's cells are, of the datum that it reads as -/
def shiftK (n : Nat) (l : List (Nat × AV)) : List (Nat × AV) := l.map fun x => (n + x.1, x.2)
def known (P : Program) : Nat → TypeId → DataW Unit → List (Nat × AV)
  | 0, _, _ => []
  | f + 1, t, d => match P.underlying t, d with
    | some .bool, .lit (.bool b) => [(0, .bool b)]
    | some (.int _), .lit (.int k n) => [(0, .int k n)]
    | some .string, .lit (.string s) => [(0, .str (s.map UInt8.toNat))]
    | some (.struct fs), .agg ds => (fs.toList.zip ds).flatMap fun x => shiftK x.1.offset (known P f x.1.type x.2)
    | some (.array _ e), .agg ds => ds.zipIdx.flatMap fun x => shiftK (x.2 * P.cellsOf e) (known P f e x.1)
    | _, _ => []
theorem mem_shiftK {n k : Nat} {v : AV} {l : List (Nat × AV)} (h : (k, v) ∈ shiftK n l) : ∃ k', k = n + k' ∧ (k', v) ∈ l := by
  obtain ⟨⟨k', v'⟩, hm, e⟩ := List.mem_map.1 h
  simp only [Prod.mk.injEq] at e
  obtain ⟨rfl, rfl⟩ := e
  exact ⟨k', rfl, hm⟩
theorem known_ok {w : World} {base : Nat} {sp : Nat → Bool} {held : Bool} : ∀ (f fuel : Nat) (t : TypeId) (cs : List Value) (d : DataW Unit) (ps : List MemPlace),
    DataW.trod (fun _ => ()) P w base sp held fuel t cs = some (d, ps) → ∀ k v, (k, v) ∈ known P f t d → ∃ u, cs[k]? = some u ∧ ∀ ρ, Rel τ ρ v u := by
  intro f
  induction f with
  | zero => intro fuel t cs d ps _ k v hm; cases hm
  | succ f ih =>
    intro fuel t cs d ps h k v hm
    unfold known at hm
    split at hm
    · rename_i hu
      obtain ⟨b, rfl, e⟩ := DataW.trod_bool hu h
      simp only [Prod.mk.injEq, DataW.lit.injEq, Lit.bool.injEq] at e
      obtain ⟨rfl, _⟩ := e
      simp only [List.mem_singleton, Prod.mk.injEq] at hm
      obtain ⟨rfl, rfl⟩ := hm
      exact ⟨_, rfl, fun _ => .bool _⟩
    · rename_i hu
      obtain ⟨n, rfl, e, _⟩ := DataW.trod_int hu h
      simp only [Prod.mk.injEq, DataW.lit.injEq, Lit.int.injEq] at e
      obtain ⟨⟨rfl, rfl⟩, _⟩ := e
      simp only [List.mem_singleton, Prod.mk.injEq] at hm
      obtain ⟨rfl, rfl⟩ := hm
      exact ⟨_, rfl, fun _ => .int _ _⟩
    · rename_i hu
      obtain ⟨s, rfl, e, _⟩ := DataW.trod_string hu h
      simp only [Prod.mk.injEq, DataW.lit.injEq, Lit.string.injEq] at e
      obtain ⟨rfl, _⟩ := e
      simp only [List.mem_singleton, Prod.mk.injEq] at hm
      obtain ⟨rfl, rfl⟩ := hm
      exact ⟨_, rfl, fun _ => .str rfl⟩
    · rename_i fs ds hu
      obtain ⟨xs, n, _, e, hl, hxl, hall⟩ := DataW.trod_struct hu h
      simp only [Prod.mk.injEq, DataW.agg.injEq] at e
      obtain ⟨rfl, _⟩ := e
      obtain ⟨⟨fd, d'⟩, hz, hk⟩ := List.mem_flatMap.1 hm
      obtain ⟨k', rfl, hk'⟩ := mem_shiftK hk
      obtain ⟨i, hi⟩ := List.mem_iff_getElem?.1 hz
      rw [List.getElem?_zip_eq_some] at hi
      obtain ⟨h1, h2⟩ := hi
      rw [Array.getElem?_toList] at h1
      rw [List.getElem?_map, Option.map_eq_some_iff] at h2
      obtain ⟨x, hx, rfl⟩ := h2
      have h3 := hall i fd h1
      rw [hx] at h3
      obtain ⟨u, hu', hr⟩ := ih _ _ _ _ _ h3 _ _ hk'
      refine ⟨u, ?_, hr⟩
      have hlt : k' < P.cellsOf fd.type := by
        have := (List.getElem?_eq_some_iff.1 hu').1
        simp at this; omega
      rw [List.getElem?_take_of_lt hlt, List.getElem?_drop] at hu'
      exact hu'
    · rename_i n e ds hu
      obtain ⟨⟨d', i⟩, hz, hk⟩ := List.mem_flatMap.1 hm
      obtain ⟨k', rfl, hk'⟩ := mem_shiftK hk
      have hz' := List.mem_zipIdx_iff_getElem?.1 hz
      simp only at hz' hk'
      obtain ⟨xs, m, _, hx, _, hxl, hel⟩ := DataW.trod_array hu h
      simp only [Prod.mk.injEq, DataW.agg.injEq] at hx
      obtain ⟨rfl, _⟩ := hx
      rw [List.getElem?_map, Option.map_eq_some_iff] at hz'
      obtain ⟨x, hx, rfl⟩ := hz'
      have hn : i < n := by
        have := (List.getElem?_eq_some_iff.1 hx).1
        omega
      have h2 := hel i hn
      rw [hx] at h2
      obtain ⟨u, hu', hr⟩ := ih _ _ _ _ _ h2 _ _ hk'
      refine ⟨u, ?_, hr⟩
      have hlt : k' < P.cellsOf e := by
        have := (List.getElem?_eq_some_iff.1 hu').1
        simp at this; omega
      rw [List.getElem?_take_of_lt hlt, List.getElem?_drop] at hu'
      exact hu'
    · cases hm

/-! ### The first heap -/
/-- A variable whose cells are all known. -/
structure VarIs (τ : Nat → Value) (w : World) (g : Nat) (ty : TypeId) (l : List AV) : Prop where
  lt : g ≤ 63
  blk : ∃ (C : Array Value) (fz : Nat × Nat), w.heap[g]? = some (.cells C ty fz) ∧ ∀ (k : Nat) (v : AV), l[k]? = some v → ∃ u, C[k]? = some u ∧ ∀ ρ, Rel τ ρ v u
/-- A listed variable reads as the datum beside its name. -/
theorem laid_reads {w : World} : ∀ {l : List (String × DataW Unit)} {ps : List MemPlace}, DataW.LaidVars P w l ps → ∀ n d, (n, d) ∈ l →
    ∃ g t cs fuel p, P.globalNamed n = some g ∧ (P.globals[g]?).map (·.type) = some t ∧ w.var? P n = some cs ∧ DataW.trod (fun _ => ()) P w 0 (fun _ => true) false fuel t cs.toList = some (d, p)
  | [], _, _, _, _, hm => by cases hm
  | (n', d') :: r, ps, h, n, d, hm => by
    obtain ⟨g, t, cs, fuel, p, q, h1, h2, h3, h4, h5, _⟩ := h
    rcases List.mem_cons.1 hm with e | e
    · cases e
      exact ⟨g, t, cs, fuel, p, h1, h2, h3, h4⟩
    · exact laid_reads h5 n d e
theorem varIs_of {w : World} {n : String} {d : DataW Unit} {g : Nat} {t : TypeId} {l : List AV} {ll : List (String × DataW Unit)} (hl0 : laidMet P ll w) (hm0 : (n, d) ∈ ll) (hg : P.globalNamed n = some g) (ht : (P.globals[g]?).map (·.type) = some t)
    (hl : g ≤ 63) {f : Nat} (hk : known P f t d = l.zipIdx.map fun x => (x.2, x.1)) : ∃ ty, VarIs τ w g ty l := by
  obtain ⟨qs, hlv, _⟩ := hl0
  obtain ⟨g', t', cs, fuel, p, h1, h2, h3, h4⟩ := laid_reads hlv n d hm0
  obtain rfl := Option.some.inj (hg.symm.trans h1)
  obtain rfl := Option.some.inj (ht.symm.trans h2)
  simp only [World.var?, hg, Option.bind_some] at h3
  split at h3 <;> try (cases h3; done)
  rename_i C ty fz hb; obtain rfl := Option.some.inj h3
  refine ⟨ty, hl, C, fz, hb, fun k v hv => ?_⟩
  have hm : (k, v) ∈ known P f t d := by
    rw [hk]
    exact List.mem_map.2 ⟨(v, k), List.mem_zipIdx_iff_getElem?.2 hv, rfl⟩
  obtain ⟨u, hu, hr⟩ := known_ok f fuel t _ d p h4 k v hm
  exact ⟨u, by rw [← Array.getElem?_toList]; exact hu, hr⟩
def varOb (ty : TypeId) (l : List AV) : Ob := .row (PT.setL .lf 0 l) (len l) none 3 ty
def firstSt : List (Nat × TypeId × List AV) → PT Ob
  | [] => .lf
  | x :: r => (firstSt r).set x.1 (varOb x.2.1 x.2.2)
theorem firstSt_get {i : Nat} {o : Ob} : ∀ {l : List (Nat × TypeId × List AV)}, (firstSt l).get i = some o → ∃ ty vs, (i, ty, vs) ∈ l ∧ o = varOb ty vs
  | [], h => by cases h
  | x :: r, h => by
    obtain ⟨g, ty, vs⟩ := x
    have h : ((firstSt r).set g (varOb ty vs)).get i = some o := h
    rw [PT.get_set] at h
    by_cases e : i = g
    · subst e
      rw [if_pos rfl] at h
      cases h
      exact ⟨ty, vs, .head _, rfl⟩
    · rw [if_neg e] at h
      obtain ⟨ty', vs', hm, ho⟩ := firstSt_get h
      exact ⟨ty', vs', .tail _ hm, ho⟩
def ro0 (w : World) : Ro := fun i => if i ≤ 63 then some ⟨i, 0, match w.heap[i]? with | some (.cells C _ _) => C.size | _ => 0⟩ else none
theorem sim_first {w : World} {l : List (Nat × TypeId × List AV)} (h : ∀ x ∈ l, VarIs τ w x.1 x.2.1 x.2.2) : Sim τ (ro0 w) ⟨firstSt l, 64⟩ w where
  ob := fun i o ho => by
    obtain ⟨ty, vs, hm, rfl⟩ := firstSt_get ho
    obtain ⟨hlt, C, fz, hb, hc⟩ := h _ hm
    simp only at hlt hb hc
    refine ⟨_, by unfold ro0; rw [if_pos hlt], C, fz, hb, by simp [hb], fun k v hv => ?_, fun k hk => ?_, fun e => (by cases e), fun e => (by omega)⟩
    · rw [PT.get_setL] at hv
      split at hv
      · obtain ⟨u, hu, hr⟩ := hc _ _ hv
        exact ⟨u, by simpa using hu, hr _⟩
      · cases hv
    · rw [PT.get_setL, if_neg]
      · rfl
      · rw [len_eq] at hk; omega
  sep := fun i j o o' p q hij hi hj hp hq hpq => by
    unfold ro0 at hp hq
    split at hp <;> split at hq <;> simp only [Option.some.injEq, reduceCtorEq] at hp hq
    subst hp; subst hq
    exact absurd hpq hij
  top := fun i hi => by
    have hi : 64 ≤ i := hi
    unfold ro0; rw [if_neg (by omega)]
  glob := fun g hg => by unfold ro0; rw [if_pos hg]; exact ⟨_, rfl⟩

/-! ### The end -/
/-- A law's call, closed by the evaluator: it answers true, and what was there is there. -/
theorem law_of_ev {X : FuncId → Option Ext} (E : Env P τ X) {n : Nat} {f : FuncId} {args : List AV} {us : List Value} {s' : St} {w : World} {l : List (Nat × TypeId × List AV)}
    (h : ev P X n (.call f args ⟨firstSt l, 64⟩) = .val (.bool true) s') (hv : ∀ x ∈ l, VarIs τ w x.1 x.2.1 x.2.2) (hr : RelL τ (ro0 w) args us) :
    Calls P f ⟨us⟩ w fun e w' => e = .returned (.bool true) ∧ Below w.heap.size w w' := by
  refine (calls_of_ev E h (sim_first hv) hr).mono ?_
  rintro e w' ⟨u, ρ', rfl, hu, _, hL⟩
  cases hu
  refine ⟨rfl, hL.os, hL.tape, hL.out, hL.size, fun k hk => hL.frame k hk fun i o pl ho _ _ => ?_⟩
  obtain ⟨ty, vs, _, rfl⟩ := firstSt_get ho
  exact rfl
def isTrue : Res → Bool
  | .val (.bool true) _ => true
  | _ => false
theorem isTrue_eq {r : Res} (h : isTrue r = true) : ∃ s', r = .val (.bool true) s' := by
  unfold isTrue at h
  split at h
  · exact ⟨_, rfl⟩
  · cases h
end
end Go.Hb

/-
  The evaluator with calls that are answered beforehand: a long closed run in parts.
-/
namespace Go.Hb
open Go Go.Lib Go.RowKit
noncomputable section

/-! ### Likeness of objects and heaps, as a word -/
def eqO {α : Type} (eq : α → α → Bool) : Option α → Option α → Bool
  | none, none => true
  | some a, some b => eq a b
  | _, _ => false
def eqPT {α : Type} (eq : α → α → Bool) : PT α → PT α → Bool
  | .lf, .lf => true
  | .nd l v r, .nd l' v' r' => aN (eqO eq v v') (aN (eqPT eq l l') (eqPT eq r r'))
  | _, _ => false
def eqEnt : List (AV × AV × Nat) → List (AV × AV × Nat) → Bool
  | [], [] => true
  | (k, v, b) :: x, (l, w, c) :: y => aN (eqAV k l) (aN (eqAV v w) (aN (Nat.beq b c) (eqEnt x y)))
  | _, _ => false
/-- Rows and maps alone. -/
def eqOb : Ob → Ob → Bool
  | .row cs n tw md ty, .row cs' n' tw' md' ty' => aN (Nat.beq n n') (aN (eqO Nat.beq tw tw') (aN (Nat.beq md md') (aN (Nat.beq ty ty') (eqPT eqAV cs cs'))))
  | .map es c, .map es' c' => aN (Nat.beq c c') (eqEnt es es')
  | _, _ => false
/-- Is the first heap part of the second one? -/
def subPT : PT Ob → PT Ob → Bool
  | .lf, _ => true
  | .nd l v r, .nd l' v' r' => aN (match v with
    | none => true
    | some o => match v' with
      | none => false
      | some o' => eqOb o o') (aN (subPT l l') (subPT r r'))
  | .nd _ _ _, .lf => false
def subSt (s s' : St) : Bool := aN (Nat.beq s.nx s'.nx) (subPT s.h s'.h)

theorem eqBool_true {a b : Bool} (h : eqBool a b = true) : a = b := by cases a <;> cases b <;> first | rfl | cases h
theorem aN_true {a b : Bool} (h : aN a b = true) : a = true ∧ b = true := by cases a <;> cases b <;> first | exact ⟨rfl, rfl⟩ | cases h
theorem eqO_true {α : Type} {eq : α → α → Bool} (he : ∀ a b, eq a b = true → a = b) {x y : Option α} (h : eqO eq x y = true) : x = y := by
  cases x <;> cases y <;> first | rfl | (cases h; done) | (rw [he _ _ h])
theorem natBeq_true {a b : Nat} (h : Nat.beq a b = true) : a = b := Nat.eq_of_beq_eq_true h
theorem eqPT_true {α : Type} {eq : α → α → Bool} (he : ∀ a b, eq a b = true → a = b) : ∀ {x y : PT α}, eqPT eq x y = true → x = y := by
  intro x
  induction x with
  | lf => intro y h; cases y <;> first | rfl | cases h
  | nd l v r ihl ihr =>
    intro y h
    cases y with
    | lf => cases h
    | nd l' v' r' =>
      have h : aN (eqO eq v v') (aN (eqPT eq l l') (eqPT eq r r')) = true := h
      obtain ⟨h1, h⟩ := aN_true h
      obtain ⟨h2, h3⟩ := aN_true h
      rw [eqO_true he h1, ihl h2, ihr h3]
theorem eqEnt_true (he : ∀ a b, eqAV a b = true → a = b) : ∀ {x y : List (AV × AV × Nat)}, eqEnt x y = true → x = y := by
  intro x
  induction x with
  | nil => intro y h; cases y <;> first | rfl | cases h
  | cons a x ih =>
    intro y h
    cases y with
    | nil => cases h
    | cons b y =>
      obtain ⟨k, v, n⟩ := a
      obtain ⟨l, w, m⟩ := b
      have h : aN (eqAV k l) (aN (eqAV v w) (aN (Nat.beq n m) (eqEnt x y))) = true := h
      obtain ⟨h1, h⟩ := aN_true h
      obtain ⟨h2, h⟩ := aN_true h
      obtain ⟨h3, h4⟩ := aN_true h
      rw [he _ _ h1, he _ _ h2, natBeq_true h3, ih h4]
theorem eqOb_true (he : ∀ a b, eqAV a b = true → a = b) {x y : Ob} (h : eqOb x y = true) : x = y := by
  cases x <;> cases y <;> try (cases h; done)
  · obtain ⟨h1, h⟩ := aN_true h
    obtain ⟨h2, h⟩ := aN_true h
    obtain ⟨h3, h⟩ := aN_true h
    obtain ⟨h4, h5⟩ := aN_true h
    rw [natBeq_true h1, eqO_true (fun _ _ => natBeq_true) h2, natBeq_true h3, natBeq_true h4, eqPT_true he h5]
  · obtain ⟨h1, h2⟩ := aN_true h
    rw [natBeq_true h1, eqEnt_true he h2]
theorem subPT_get (he : ∀ a b, eqAV a b = true → a = b) : ∀ {x y : PT Ob}, subPT x y = true → ∀ i o, x.get i = some o → y.get i = some o := by
  intro x
  induction x with
  | lf => intro y _ i o h; cases h
  | nd l v r ihl ihr =>
    intro y h i o hg
    cases y with
    | lf => cases h
    | nd l' v' r' =>
      obtain ⟨h1, h⟩ := aN_true h
      obtain ⟨h2, h3⟩ := aN_true h
      rw [PT.get_nd] at hg ⊢
      by_cases h0 : i = 0
      · rw [if_pos h0] at hg ⊢
        subst hg
        split at h1
        · rename_i e; cases e
        · rename_i o' e
          cases e
          split at h1
          · cases h1
          · rename_i o'' 
            rw [eqOb_true he h1]
      · rw [if_neg h0] at hg ⊢
        by_cases hp : i % 2 = 1
        · rw [if_pos hp] at hg ⊢; exact ihl h2 _ _ hg
        · rw [if_neg hp] at hg ⊢; exact ihr h3 _ _ hg

/-! ### A call whose outcome is known -/
variable {P : Program} {τ : Nat → Value} {X : FuncId → Option Ext}
/-- A call comes to this, from whatever world is like the heap. -/
def CallIs (P : Program) (τ : Nat → Value) (f : FuncId) (args : List AV) (s : St) (v : AV) (s' : St) : Prop :=
  ∀ (ρ : Ro) (w : World) (us : List Value), Sim τ ρ s w → RelL τ ρ args us → (callFunc f ⟨us⟩).run P w = .ok (.enter f ⟨us⟩) w ∧ Calls P f ⟨us⟩ w (RQ τ ρ s w v s')
theorem sub_less {s s' : St} (h : subSt s' s = true) : (∀ i o, s'.h.get i = some o → s.h.get i = some o) ∧ s'.nx = s.nx := by
  obtain ⟨h1, h2⟩ := aN_true h
  exact ⟨subPT_get eqAV_eq h2, natBeq_true h1⟩
theorem CallIs.less {f : FuncId} {args : List AV} {s s' s₀ s₁ : St} {v : AV} (h : CallIs P τ f args s v s') (h0 : subSt s s₀ = true) (h1 : subSt s₁ s' = true) : CallIs P τ f args s₀ v s₁ := by
  intro ρ w us hS hr
  obtain ⟨a0, b0⟩ := sub_less h0
  obtain ⟨hS', hL'⟩ := sim_less hS a0 b0
  obtain ⟨he, hc⟩ := h _ _ _ hS' hr
  refine ⟨he, hc.mono ?_⟩
  rintro e w' ⟨u, ρ', rfl, hu, hS2, hL2⟩
  obtain ⟨a1, b1⟩ := sub_less h1
  obtain ⟨hS3, hL3⟩ := sim_less hS2 a1 b1
  exact ⟨u, ρ', rfl, hu, hS3, (hL'.trans hL2).trans hL3⟩
abbrev Orc : Type := FuncId → List AV → St → Option (AV × St)
def OrcOk (P : Program) (τ : Nat → Value) (O : Orc) : Prop := ∀ f args s v s', O f args s = some (v, s') → CallIs P τ f args s v s'
def stepO (P : Program) (X : FuncId → Option Ext) (O : Orc) (rc : Task → Res) (t : Task) : Res :=
  Task.rec (motive := fun _ => Res) (fun c rd a s => step P X rc (.code c rd a s))
    (fun f args s => Option.rec (motive := fun _ => Res) (step P X rc (.call f args s)) (fun p => .val p.1 p.2) (O f args s))
    (fun i args s => step P X rc (.round i args s)) (fun f args s => step P X rc (.dcall f args s)) (fun c a s => step P X rc (.dcode c a s)) t
def evO (P : Program) (X : FuncId → Option Ext) (O : Orc) (n : Nat) : Task → Res :=
  Nat.rec (motive := fun _ => Task → Res) (fun _ => .bad) (fun _ ih t => stepO P X O ih t) n
theorem stepO_ok (E : Env P τ X) {O : Orc} (hO : OrcOk P τ O) {rc : Task → Res} (S : Sound P τ rc) : Sound P τ (stepO P X O rc) := by
  have T := step_ok E S (draw_ok E rc S)
  refine ⟨T.code, T.loop, ?_, T.round, T.dcall, T.dcode⟩
  intro f args s s' v ρ w us h hS hr
  have h : Option.rec (motive := fun _ => Res) (step P X rc (.call f args s)) (fun p => .val p.1 p.2) (O f args s) = .val v s' := h
  cases ho : O f args s with
  | none => rw [ho] at h; exact T.call h hS hr
  | some p =>
    obtain ⟨v₁, s₁⟩ := p
    rw [ho] at h
    cases h
    exact hO _ _ _ _ _ ho _ _ _ hS hr
theorem evO_ok (E : Env P τ X) {O : Orc} (hO : OrcOk P τ O) (n : Nat) : Sound P τ (evO P X O n) := by
  induction n with
  | zero => exact bad_ok
  | succ n ih => exact stepO_ok E hO ih

/-- One answer: the function, its arguments, what the heap must hold; what comes of it. -/
structure Ans where
  f : FuncId
  args : List AV
  s : St
  v : AV
  s' : St
def ansO (a : Ans) : Orc := fun f args s =>
  match Nat.beq f a.f with
  | false => none
  | true => match Nat.beq s.nx a.s.nx with
    | false => none
    | true => match aN (eqAVs args a.args) (subSt a.s s) with
      | false => none
      | true => some (a.v, a.s')
def ansL : List Ans → Orc
  | [] => fun _ _ _ => none
  | a :: l => fun f args s => match ansO a f args s with
    | some p => some p
    | none => ansL l f args s
theorem ansO_ok {a : Ans} (h : CallIs P τ a.f a.args a.s a.v a.s') (hs : subSt a.s' a.s' = true) : OrcOk P τ (ansO a) := by
  intro f args s v s' ho
  unfold ansO at ho
  split at ho <;> try (cases ho; done)
  rename_i e1
  split at ho <;> try (cases ho; done)
  split at ho <;> try (cases ho; done)
  rename_i e3
  obtain ⟨e3, e4⟩ := aN_true e3
  cases ho
  obtain rfl := natBeq_true e1
  obtain rfl := eqAVs_eq _ _ e3
  exact h.less e4 hs
theorem ansL_ok : ∀ {l : List Ans}, (∀ a ∈ l, CallIs P τ a.f a.args a.s a.v a.s' ∧ subSt a.s' a.s' = true) → OrcOk P τ (ansL l)
  | [], _ => fun _ _ _ _ _ h => by cases h
  | a :: l, h => by
    intro f args s v s' ho
    have ho : (match ansO a f args s with
      | some p => some p
      | none => ansL l f args s) = some (v, s') := ho
    split at ho
    · rename_i p e
      cases ho
      exact ansO_ok (h a (.head _)).1 (h a (.head _)).2 _ _ _ _ _ e
    · exact ansL_ok (fun b hb => h b (.tail _ hb)) _ _ _ _ _ ho
/-- Is an answer what comes of a run? -/
def okAns (a : Ans) (r : Res) : Bool := match r with
  | .val v s => aN (eqAV v a.v) (aN (subSt a.s' s) (subSt a.s' a.s'))
  | _ => false
theorem sub_self {a : Ans} {r : Res} (h : okAns a r = true) : subSt a.s' a.s' = true := by
  unfold okAns at h
  split at h
  · exact (aN_true (aN_true h).2).2
  · cases h
theorem gives_of {rc : Task → Res} (S : Sound P τ rc) {a : Ans} (h : okAns a (rc (.call a.f a.args a.s)) = true) : CallIs P τ a.f a.args a.s a.v a.s' := by
  unfold okAns at h
  split at h <;> try (cases h; done)
  rename_i v s e
  obtain ⟨h1, h⟩ := aN_true h
  obtain ⟨h2, _⟩ := aN_true h
  obtain rfl := eqAV_eq _ _ h1
  intro ρ w us hS hr
  obtain ⟨he, hc⟩ := S.call e hS hr
  refine ⟨he, hc.mono ?_⟩
  rintro x w' ⟨u, ρ', rfl, hu, hS2, hL2⟩
  obtain ⟨a1, b1⟩ := sub_less h2
  obtain ⟨hS3, hL3⟩ := sim_less hS2 a1 b1
  exact ⟨u, ρ', rfl, hu, hS3, hL2.trans hL3⟩
/-- A law's call, closed by an evaluator: it answers true, and what was there is there. -/
theorem law_of_rc {rc : Task → Res} (S : Sound P τ rc) {f : FuncId} {args : List AV} {us : List Value} {w : World} {l : List (Nat × TypeId × List AV)}
    (h : isTrue (rc (.call f args ⟨firstSt l, 64⟩)) = true) (hv : ∀ x ∈ l, VarIs τ w x.1 x.2.1 x.2.2) (hr : RelL τ (ro0 w) args us) :
    Calls P f ⟨us⟩ w fun e w' => e = .returned (.bool true) ∧ Below w.heap.size w w' := by
  obtain ⟨s', h⟩ := isTrue_eq h
  refine (S.call h (sim_first hv) hr).2.mono ?_
  rintro e w' ⟨u, ρ', rfl, hu, _, hL⟩
  cases hu
  refine ⟨rfl, hL.os, hL.tape, hL.out, hL.size, fun k hk => hL.frame k hk fun i o pl ho _ _ => ?_⟩
  obtain ⟨ty, vs, _, rfl⟩ := firstSt_get ho
  exact rfl
end
end Go.Hb

/-
  The row's contract, with what is said of the shape of the first world; the variables' blocks.
-/
namespace Go.Hb
open Go Go.Lib Go.RowKit
variable {P : Program} {τ : Nat → Value}
theorem varIs_shaped {w : World} {n : String} {d : DataW Unit} {g : Nat} {t ty : TypeId} {l : List AV} {ll : List (String × DataW Unit)} (hW : w.ShapedOpen P) (hl0 : laidMet P ll w) (hm0 : (n, d) ∈ ll)
    (hg : P.globalNamed n = some g) (ht : (P.globals[g]?).map (·.type) = some t) (hty : (((begin P (fun _ _ => 0) default).world.heap[g]?).bind Obj.row?).map (·.2) = some ty)
    (hl : g ≤ 63) {f : Nat} (hk : known P f t d = l.zipIdx.map fun x => (x.2, x.1)) : VarIs τ w g ty l := by
  obtain ⟨ty', h⟩ := varIs_of (τ := τ) hl0 hm0 hg ht hl hk
  obtain ⟨⟨zero, t0⟩, h0, e⟩ := Option.map_eq_some_iff.1 hty
  have hlt : g < P.globals.size := by
    obtain ⟨x, hx, _⟩ := Option.map_eq_some_iff.1 ht
    exact (Array.getElem?_eq_some_iff.1 hx).1
  obtain ⟨cs, hcs, _⟩ := hW.1 g zero t0 hlt h0
  simp only at e
  subst e
  obtain ⟨C, fz, hb, hc⟩ := h.blk
  rw [hcs] at hb
  cases hb
  exact ⟨h.lt, _, _, hcs, hc⟩
section
variable {H : Type} {enc : TypeId × Value → H}
theorem handed_of_change {a : Assume} {C : Checked} {os : Os} {f : FuncId} {fn : Func} {s : ChangeSpec} {conds : List PathCond} {apart fresh handsOn again : Bool} {X : World → Array Value → Prop}
    (hX : ∀ (w w' : World) (args : Array Value), w.heap = w'.heap → X w args → X w' args)
    (own : ownKnob C.prog.godebug = none) (started : os.Started) (noInit : C.prog.inits.idxOf? f = none) (hfn : C.prog.funcs[f]? = some fn)
    (witness : ∃ (w : World) (tape : Tape) (i : Input), w.os = os ∧ (w.forCall tape i).Shaped C.prog ∧ i.vars = [] ∧ Input.okWide C.prog (w.forCall tape i) .any w.heap.size f i ∧
      ((s.pre enc C.prog fn conds apart (w.forCall tape i).memory i.args ∧ X (w.forCall tape i).memory i.args) ∧ sizedMet enc C.prog fn (OpenSpec.ofChange s) apart (w.forCall tape i).memory i.args) ∧ a.holds C.prog (lone (Frame.enter C.prog f i.args .normal) [] (w.forCall tape i)))
    (contract : ∀ (W : World) (base : Nat) (args : Array Value) (ds gs : List (DataW H)) (before : List MemPlace), W.ShapedOpen C.prog →
      (∀ (j : Nat) t v, fn.params[j]? = some t → args[j]? = some v → Value.okWide C.prog W .any base t v) →
      DataW.Whole enc C.prog fn.params.toList s.vars apart W args.toList ds gs before →
      conds.all (PathCond.test C.prog ⟨fn.params.toList, ds, s.plain.varTypes C.prog, gs⟩) = true →
      (DataW.weightsEach C.prog (fn.params.toList ++ s.plain.varTypes C.prog) (ds ++ gs)).all (· ≤ reachBytes) = true → X W args →
      Calls C.prog f args W fun e W' => ∃ v, e = .returned v ∧ s.post enc C.prog fn apart fresh handsOn again W args v W') :
    ReturnsInHanded a C os f .any (fun w args => (s.pre enc C.prog fn conds apart w args ∧ X w args) ∧ sizedMet enc C.prog fn (OpenSpec.ofChange s) apart w args) (s.post enc C.prog fn apart fresh handsOn again) := by
  refine returnsInHanded_of_calls own started noInit witness ?_
  intro w tape i _ hsh _ hok hpre _
  obtain ⟨_, _, _, fn', hfn', _, _, _, _, hval⟩ := hok
  have e : fn' = fn := Option.some.inj (hfn'.symm.trans hfn)
  subst e
  obtain ⟨⟨⟨ds, gs, before, hw, hc⟩, hx⟩, hz⟩ := hpre
  have hw' := DataW.Whole.of_heap (w' := w.forCall tape i) (by rfl) hw
  refine (contract (w.forCall tape i) w.heap.size i.args ds gs before hsh hval hw' hc (hz.weights hw) (hX _ _ _ (by rfl) hx)).mono fun e W' ⟨v, he, hp⟩ => ?_
  subst he
  exact ChangeSpec.post_blind hp
end
end Go.Hb
