import PyProof.Rows.All
import Wide.All
import OpenK.AllK
import Wide.FinOn
import HandS.ForMost
import HandS.GenList
import HandS.TupSets
import HandS.TupAny
import HandS.IsInst
import HandS.DictComp
import HandS.OwnEq
import HandS.Deep
import KE.GoesMore
import KE.SortData
import PySem.Challenge.RW_triplefree_k44_whole_cells_listed
import HandS.ClsMeth
import HandS.Property
import HandS.Defaults
set_option Elab.async false
set_option linter.all false
set_option maxRecDepth 100000
set_option maxHeartbeats 4000000
/-! ## TfWay -/
/-! ways of the machine in which a generator may sleep over another one, and the scheduler's run of such a way -/
namespace TF
open PySem
/-- the turn is handed on out of «yield from» over a generator -/
def Deleg (s : Shared) (c : Code) (fs : List Frame) : Prop :=
  fs.any Frame.guarded = false ∧ ∃ (a : Addr) (more : List Value) (kw : List (Str × Value)) (o : Obj) (n : Nat), c = .builtin "proto.yield_from" ⟨.ref a :: more, kw⟩ ∧ s.heap.get? a = some o ∧ o.genNumber? = some n
inductive Way (M : Model) (base : List Frame) : Shared → Sem PySem.Fin → Code → Pos → List Frame → Shared → End → Prop
  | out {s : Shared} {t : Sem PySem.Fin} {c : Code} {p : Pos} {pre : List Frame} {e : End} (x : Exits e t c p pre) : Way M base s t c p pre s e
  | calm {s : Shared} {t : Sem PySem.Fin} {c : Code} {p : Pos} {pre : List Frame} {s1 : Shared} {t1 : Sem PySem.Fin} {c1 : Code} {p1 : Pos} {pre1 : List Frame} {z : Shared} {e : End}
      (h : M.step s ⟨t, c, p, pre ++ base⟩ = .go s1 ⟨t1, c1, p1, pre1 ++ base⟩) (r : Way M base s1 t1 c1 p1 pre1 z e) : Way M base s t c p pre z e
  | deleg {s : Shared} {v : Value} {l : List Value} {kk : Resume → Sem PySem.Fin} {c : Code} {p : Pos} {pre fs : List Frame} {g : Nat} {k1 : GenResult → Sem PySem.Fin} {c1 : Code} {p1 : Pos} {pre1 : List Frame} {z : Shared} {e : End}
      (h : splitAtGen pre = some (fs, (g, k1, c1, p1), pre1)) (d : Deleg s c fs) (r : Way M base (s.setGen g (.suspended kk l c p fs true)) (k1 (.yielded v)) c1 p1 pre1 z e) : Way M base s (.yield v true l kk) c p pre z e
theorem Way.ofReach {M : Model} {base : List Frame} {s z : Shared} {t : Sem PySem.Fin} {c : Code} {p : Pos} {pre : List Frame} {e : End} (h : Reach M base s t c p pre z e) : Way M base s t c p pre z e := by
  induction h with
  | exit x => exact .out x
  | step h _ ih => exact .calm h ih
/-! ### the scheduler -/
section
variable (den : Code → Sem PySem.Fin) (prog : Program) (w : World)
theorem forget_guarded {fs gs : List Frame} (h : forgetAll fs = forgetAll gs) : fs.any Frame.guarded = gs.any Frame.guarded := by
  rw [← any_guarded_forgetAll fs, h, any_guarded_forgetAll]
theorem closing_deleg {s : Shared} {c : Code} {fs : List Frame} (d : Deleg s c fs) (hr : s.heap.life.registered = []) : closingShows s fs c true = false := by
  obtain ⟨hg, a, more, kw, o, n, rfl, ho, hn⟩ := d
  simp [closingShows, hg, delegateShows, ho, hn, hr]
theorem pick_yield (s : Shared) (v : Value) (g : Bool) (l : List Value) (k : Resume → Sem PySem.Fin) (c : Code) (p : Pos) (st : List Frame) (hr : s.heap.life.registered = []) :
    (Config.single s ⟨.yield v g l k, c, p, st⟩).pick w = .ok (.run 0, .single s ⟨.yield v g l k, c, p, st⟩) := by
  have a1 : (Config.single s ⟨.yield v g l k, c, p, st⟩).collect? w.params = none := by
    simp [Config.collect?, Config.single, (nothing_to_collect _ _ _ s ⟨.yield v g l k, c, p, st⟩ hr).1]
  have a2 : (Config.single s ⟨.yield v g l k, c, p, st⟩).collectable = [] := by
    simp [Config.collectable, Config.single, (nothing_to_collect w.params _ _ s ⟨.yield v g l k, c, p, st⟩ hr).2]
  have a3 : (Config.single s ⟨.yield v g l k, c, p, st⟩).moves w.params.profile = [.run 0] := by
    simp [Config.moves, Config.single, movesFrom, Thread.moves, Thread.atomic, Thread.rests, Thread.tells]
  simp only [Config.pick, a1, a2, Config.pickThread, a3]
  cases w.params.lifetimes <;> simp
theorem life_yield (others : List Value) (s : Shared) (v : Value) (l : List Value) (k : Resume → Sem PySem.Fin) (c : Code) (p : Pos) (st fs rest : List Frame) (b : Nat × (GenResult → Sem PySem.Fin) × Code × Pos)
    (hz : s.asleep) (hs : splitAtGen st = some (fs, b, rest)) (d : Deleg s c fs) :
    lifeStep den prog w others s ⟨.yield v true l k, c, p, st⟩ = step den prog w s ⟨.yield v true l k, c, p, st⟩ := by
  obtain ⟨hr, hc⟩ := hz
  have e1 : Thread.special ⟨.yield v true l k, c, p, st⟩ = true := by simp [Thread.special, Thread.yieldsInsideHandler]
  have e2 : collectorTurn? w.params others s ⟨.yield v true l k, c, p, st⟩ = none := by simp [collectorTurn?]
  have e3 := closing_deleg d hr
  simp [lifeStep, e1, e2, hs, e3, Thread.atItsEnd, stepCounting, hc]
/-- one move of the one thread -/
theorem move_one (s : Shared) (cur : Sem PySem.Fin) (c : Code) (p : Pos) (st : List Frame) (r : Step) (hc : (∃ v g l k, cur = .yield v g l k) ∨ ∃ x : Result, cur = leafOf x)
    (hl : ∀ others, lifeStep den prog w others s ⟨cur, c, p, st⟩ = r) : (Config.single s ⟨cur, c, p, st⟩).run den prog w 0 = r.lift := by
  rcases hc with ⟨v, g, l, k, rfl⟩ | ⟨x, rfl⟩
  · simp only [Config.run, Config.single, entering_same]
    simp [Thread.finalizes, hl, others_single]
    cases r <;> rfl
  · cases x <;> simp only [Config.run, Config.single, entering_same, leafOf] <;> simp [Thread.finalizes, others_single]
    all_goals (simp only [leafOf] at hl; simp only [hl]; cases r <;> rfl)
/-- the machine's own steps, and the end -/
theorem calm_of_step {P : Program} {s s1 : Shared} {t t1 : Thread} (h : (model P w).step s t = .go s1 t1) : t.calm = true ∧ stepK (denote table) P w s t = .go s1 t1 := by
  have hl : t.loud = false := by
    cases e : t.loud with
    | false => rfl
    | true =>
      rw [(model P w).step_loud e] at h
      cases h
  have hs : stepK (denote table) P w s t = .go s1 t1 := by
    rw [(model P w).step_quiet hl] at h
    exact h
  refine ⟨?_, hs⟩
  rw [Thread.calm_eq, hl]
  cases hr : t.refused with
  | false => rfl
  | true =>
    obtain ⟨what, e⟩ := stepK_refused (denote table) P w (s := s) hr
    rw [hs] at e
    cases e
theorem calm_forget_eq {t u : Thread} (h : t.forget = u.forget) : t.calm = u.calm := by
  rw [← Thread.calm_forget t, h, Thread.calm_forget]
theorem asleep_step {P : Program} {s s1 : Shared} {t t1 : Thread} (h : step (denote table) P w s t = .go s1 t1) (hz : s.asleep) : s1.asleep := by
  have e := step_life (denote table) P w s s1 t t1 h
  exact ⟨by rw [e]; exact hz.1, by rw [e]; exact hz.2⟩
/-- what the scheduler makes of a way -/
theorem sched_way {P : Program} {s z : Shared} {t : Sem PySem.Fin} {c : Code} {p : Pos} {pre : List Frame} {e : End} (h : Way (model P w) [] s t c p pre z e) :
    ∀ (r : Result), e = .ret r → ∀ (s0 : Shared) (st : List Frame), s0.forget = s.forget → forgetAll st = forgetAll pre → s0.asleep →
      (∀ z0 : Shared, z0.forget = z.forget → z0.heap.life = s0.heap.life → leftWithCleanup (forgetSuspended (w.params.lifetimes == .anyTime) z0).gens = false) →
      ∃ n z0, schedN (denote table) P w n (.single s0 ⟨t, c, p, st⟩) = .halted (outcomeOf r) (forgetSuspended (w.params.lifetimes == .anyTime) z0) ∧ z0.forget = z.forget ∧ z0.heap.life = s0.heap.life := by
  induction h with
  | @out s t c p pre e x =>
    intro r er s0 st hs hst hz hend
    subst er
    obtain ⟨rfl, rfl⟩ := x
    obtain rfl : st = [] := by
      cases st with
      | nil => rfl
      | cons F st => simp at hst
    have hcalm : Thread.calm ⟨leafOf r, c, p, []⟩ = true := by
      cases r <;> rfl
    have hl : ∀ others, lifeStep (denote table) P w others s0 ⟨leafOf r, c, p, []⟩ = .halt (outcomeOf r) (forgetSuspended (w.params.lifetimes == .anyTime) s0) := fun others => by
      have e1 := hend s0 hs rfl
      rw [lifeStep_calm0 (denote table) P w others s0 _ hcalm hz]
      have e2 : Thread.atItsEnd ⟨leafOf r, c, p, []⟩ = true := by cases r <;> rfl
      rw [e2]
      cases r <;> simp [leafOf, step, finish, e1, outcomeOf]
    refine ⟨1, s0, ?_, hs, rfl⟩
    have e3 := pick_single w s0 ⟨leafOf r, c, p, []⟩ hcalm hz.1
    have e4 := move_one (denote table) P w s0 (leafOf r) c p [] _ (.inr ⟨r, rfl⟩) hl
    simp only [schedN, sstep, e3, Config.move, e4, Step.lift]
  | @calm s t c p pre s1 t1 c1 p1 pre1 z e h _ ih =>
    intro r er s0 st hs hst hz hend
    obtain ⟨hcalm, hk⟩ := calm_of_step w h
    rw [List.append_nil] at hcalm hk
    rw [List.append_nil] at hk
    have hf : Thread.forget ⟨t, c, p, st⟩ = Thread.forget ⟨t, c, p, pre⟩ := by
      show (⟨t, c, p, forgetAll st⟩ : Thread) = ⟨t, c, p, forgetAll pre⟩
      rw [hst]
    have q : (step (denote table) P w s0 ⟨t, c, p, st⟩).forget = (Step.go s1 ⟨t1, c1, p1, pre1⟩).forget := by
      rw [step_same (denote table) P w hs hf, ← stepK_forget (denote table) P w s ⟨t, c, p, pre⟩, hk]
    cases hq : step (denote table) P w s0 ⟨t, c, p, st⟩ with
    | halt o s' => rw [hq] at q; cases q
    | go s0' t0' =>
      rw [hq] at q
      obtain ⟨cur', c', p', st'⟩ := t0'
      simp only [Step.forget, Thread.forget, Step.go.injEq, Thread.mk.injEq] at q
      obtain ⟨q1, rfl, rfl, rfl, q5⟩ := q
      have hz' := asleep_step w hq hz
      have elife := step_life (denote table) P w _ _ _ _ hq
      obtain ⟨n, z0, hn, hz0, hlz⟩ := ih r er s0' st' q1 q5 hz' fun z0 a b => hend z0 a (b.trans elife)
      have e1 : sstep (denote table) P w (.single s0 ⟨t, c, p, st⟩) = (Step.go s0' ⟨cur', c', p', st'⟩).lift := by
        rcases sstep_single (denote table) P w s0 ⟨t, c, p, st⟩ (by rw [calm_forget_eq hf]; exact hcalm) hz with x | x
        · rw [x, hq]
        · rw [hq] at x; cases x
      exact ⟨n + 1, z0, by simp only [schedN, e1, Step.lift]; exact hn, hz0, hlz.trans elife⟩
  | @deleg s v l kk c p pre fs g k1 c1 p1 pre1 z e h d _ ih =>
    intro r er s0 st hs hst hz hend
    have hf : Thread.forget ⟨.yield v true l kk, c, p, st⟩ = Thread.forget ⟨.yield v true l kk, c, p, pre⟩ := by
      show (⟨.yield v true l kk, c, p, forgetAll st⟩ : Thread) = ⟨.yield v true l kk, c, p, forgetAll pre⟩
      rw [hst]
    have hk : step (denote table) P w s ⟨.yield v true l kk, c, p, pre⟩ = .go (s.setGen g (.suspended kk l c p fs true)) ⟨k1 (.yielded v), c1, p1, pre1⟩ := by
      obtain ⟨heap, gens, drawn, toks, os⟩ := s
      simp only [step, h, Shared.setGen, Bool.true_or]
    have q := step_same (denote table) P w hs hf
    rw [hk] at q
    cases hq : step (denote table) P w s0 ⟨.yield v true l kk, c, p, st⟩ with
    | halt o s' => rw [hq] at q; cases q
    | go s0' t0' =>
      rw [hq] at q
      obtain ⟨cur', c', p', st'⟩ := t0'
      simp only [Step.forget, Thread.forget, Step.go.injEq, Thread.mk.injEq] at q
      obtain ⟨q1, rfl, rfl, rfl, q5⟩ := q
      have hz' := asleep_step w hq hz
      have elife := step_life (denote table) P w _ _ _ _ hq
      obtain ⟨n, z0, hn, hz0, hlz⟩ := ih r er s0' st' q1 q5 hz' fun z0 a b => hend z0 a (b.trans elife)
      have es : splitAtGen (forgetAll st) = splitAtGen (forgetAll pre) := by rw [hst]
      rw [splitAtGen_forgetAll, splitAtGen_forgetAll, h] at es
      cases hsp : splitAtGen st with
      | none => rw [hsp] at es; cases es
      | some x =>
        obtain ⟨fs0, b0, rest0⟩ := x
        rw [hsp] at es
        simp only [Option.map_some, Option.some.injEq, Prod.mk.injEq] at es
        have d0 : Deleg s0 c fs0 := by
          obtain ⟨dg, a, more, kw, o, n', rfl, ho, hn'⟩ := d
          refine ⟨(forget_guarded es.1).trans dg, a, more, kw, o, n', rfl, ?_, hn'⟩
          rw [(Shared.forget_eq hs).1]
          exact ho
        have e2 := fun others => life_yield (denote table) P w others s0 v l kk c p st fs0 rest0 b0 hz hsp d0
        have e3 := pick_yield w s0 v true l kk c p st hz.1
        have e4 := move_one (denote table) P w s0 _ c p st _ (.inl ⟨v, true, l, kk, rfl⟩) e2
        have e1 : sstep (denote table) P w (.single s0 ⟨.yield v true l kk, c, p, st⟩) = (step (denote table) P w s0 ⟨.yield v true l kk, c, p, st⟩).lift := by
          simp only [sstep, e3, Config.move, e4]
        rw [hq] at e1
        exact ⟨n + 1, z0, by simp only [schedN, e1, Step.lift]; exact hn, hz0, hlz.trans elife⟩
end
end TF
/-! ## TfGo -/
/-! what a tree comes to, where generators may sleep over others -/
namespace TF
open PySem
section
variable {M : Model}
theorem Way.under {base B : List Frame} {s y z : Shared} {t : Sem PySem.Fin} {c : Code} {p : Pos} {pre : List Frame} {e d : End} (h : Way M (B ++ base) s t c p pre y d)
    (hk : ∀ t' c' p' pre', Exits d t' c' p' pre' → Way M base y t' c' p' (pre' ++ B) z e) : Way M base s t c p (pre ++ B) z e := by
  induction h with
  | out x => exact hk _ _ _ _ x
  | calm h _ ih => exact .calm (by simpa only [List.append_assoc] using h) (ih hk)
  | deleg h d _ ih => exact .deleg (splitAtGen_append_some _ h) d (ih hk)
/-- from t the machine comes to an end e -/
def Gets (M : Model) (Γ : Ctx) (p : Pos) (t : Sem PySem.Fin) (fs : List Frame) (s : Shared) (Φ : End → Shared → Prop) : Prop :=
  ∃ e z, (∀ base, Γ.Fits base → Way M base s t Γ.code p fs z e) ∧ Φ e z
theorem Gets.mono {Γ : Ctx} {p : Pos} {t : Sem PySem.Fin} {fs : List Frame} {s : Shared} {Φ Ψ : End → Shared → Prop} (h : Gets M Γ p t fs s Φ) (i : ∀ e z, Φ e z → Ψ e z) : Gets M Γ p t fs s Ψ :=
  let ⟨e, z, w, q⟩ := h
  ⟨e, z, w, i e z q⟩
theorem Gets.step {Γ : Ctx} {p q : Pos} {t u : Sem PySem.Fin} {fs : List Frame} {s y : Shared} {Φ : End → Shared → Prop} (h : ∀ base, Γ.Fits base → M.step s ⟨t, Γ.code, p, fs ++ base⟩ = .go y ⟨u, Γ.code, q, fs ++ base⟩)
    (g : Gets M Γ q u fs y Φ) : Gets M Γ p t fs s Φ :=
  let ⟨e, z, w, i⟩ := g
  ⟨e, z, fun base hb => .calm (h base hb) (w base hb), i⟩
/-- a generator's turn may end so -/
def OkEnd (e : End) (z : Shared) : Prop := e.quiet = true ∨ ∃ v l k c p fs, e = .susp v true l k c p fs ∧ splitAtGen fs = none ∧ Deleg z c fs
/-- a generator's run from its state -/
def Runs1 (M : Model) (Γ : Ctx) (p : Pos) (g : Nat) (gs : GenState) (r : Resume) (s : Shared) (e : End) (y : Shared) : Prop :=
  match gs with
  | .fresh c => r = .send .none ∧ ∀ base, (Γ.wake c p).Fits base → Way M base (s.setGen g .running) (M.den c) c p [] y e
  | .suspended k _ c q fs _ => ∀ base, (Γ.wake c p).Fits base → Way M base (s.setGen g .running) (k r) c q fs y e
  | _ => False
def WakeL (M : Model) (Γ : Ctx) (p : Pos) (g : Nat) (r : Resume) (s : Shared) (res : GenResult) (z : Shared) : Prop :=
  Wakes M Γ p g r s res z ∨ ∃ gs e y, s.gens[g]? = some gs ∧ OkEnd e y ∧ res = e.result ∧ z = y.setGen g e.genState ∧ Runs1 M Γ p g gs r s e y
def wpL {α : Type} (M : Model) (Γ : Ctx) : Sem α → (α → Pos → Shared → Prop) → (Value → Pos → Shared → Prop) → Pos → Shared → Prop
  | .pure x, φ, _, π, σ => φ x π σ
  | .raise x, _, ε, π, σ => ε x π σ
  | .unsupported _, _, _, _, _ => False
  | .finish _, _, _, _, _ => False
  | .rule _ k, φ, ε, π, σ => wpL M Γ (k ()) φ ε π σ
  | .at ρ k, φ, ε, _, σ => wpL M Γ (k ()) φ ε ρ σ
  | .load a _ k, φ, ε, π, σ => ∃ o, σ.heap.get? a = some o ∧ wpL M Γ (k o) φ ε π σ
  | .update a _ f k, φ, ε, π, σ => (σ.heap.get? a).isSome = true ∧ wpL M Γ (k ()) φ ε π { σ with heap := σ.heap.update a f }
  | .loadIfAlive a k, φ, ε, π, σ => wpL M Γ (k (σ.heap.get? a)) φ ε π σ
  | .point _ k, φ, ε, π, σ => wpL M Γ (k ()) φ ε π σ
  | .register _ _, _, _, _, _ => False
  | .alloc o k, φ, ε, π, σ => wpL M Γ (k σ.heap.objs.size) φ ε π { σ with heap := σ.heap.push o }
  | .fresh k, φ, ε, π, σ => wpL M Γ (k σ.toks) φ ε π { σ with toks := σ.toks + 1 }
  | .ask k, φ, ε, π, σ => wpL M Γ (k ⟨M.prog, M.w.params⟩) φ ε π σ
  | .choose src n k, φ, ε, π, σ => n ≠ 0 ∧ wpL M Γ (k (M.w.draws src (σ.drawn.get src) % n)) φ ε π { σ with drawn := σ.drawn.bump src }
  | .os q _ k, φ, ε, π, σ => wpL M Γ (k (Os.step σ.os q).2) φ ε π { σ with os := (Os.step σ.os q).1 }
  | .call c h _ _ k, φ, ε, π, σ => ∃ r z, (∀ base, (Γ.enter c h π).Fits base → Way M base σ (M.den c) c π [] z (.ret r)) ∧ wpL M Γ (k r) φ ε π z
  | .handled own k, φ, ε, π, σ => wpL M Γ (k (if own then Γ.own else Γ.handled)) φ ε π σ
  | .genState g k, φ, ε, π, σ => ∃ x, σ.gens[g]? = some x ∧ wpL M Γ (k x.seen) φ ε π σ
  | .newGen c k, φ, ε, π, σ => wpL M Γ (k σ.gens.size) φ ε π { σ with gens := σ.gens.push (.fresh c) }
  | .resume g r _ k, φ, ε, π, σ => ∃ res z, WakeL M Γ π g r σ res z ∧ wpL M Γ (k res) φ ε π z
  | .yield .., _, _, _, _ => False
  | .stack k, φ, ε, π, σ => wpL M Γ (k ((Γ.code, π) :: Γ.below)) φ ε π σ
  | .fork .., _, _, _, _ => False
  | .thread k, φ, ε, π, σ => wpL M Γ (k 0) φ ε π σ
  | .await .., _, _, _, _ => False
theorem wpL_bind {α β : Type} (Γ : Ctx) (m : Sem α) (f : α → Sem β) (φ : β → Pos → Shared → Prop) (ε : Value → Pos → Shared → Prop) (π : Pos) (σ : Shared) :
    wpL M Γ (m.bind f) φ ε π σ = wpL M Γ m (fun a π' σ' => wpL M Γ (f a) φ ε π' σ') ε π σ := by
  induction m generalizing π σ <;> simp only [Sem.bind, wpL, *]
theorem wpL_bind' {α β : Type} (Γ : Ctx) (m : Sem α) (f : α → Sem β) (φ : β → Pos → Shared → Prop) (ε : Value → Pos → Shared → Prop) (π : Pos) (σ : Shared) :
    wpL M Γ (m >>= f) φ ε π σ = wpL M Γ m (fun a π' σ' => wpL M Γ (f a) φ ε π' σ') ε π σ := wpL_bind Γ m f φ ε π σ
theorem wpL_tryCatch {α : Type} (Γ : Ctx) (m : Sem α) (h : Value → Sem α) (φ : α → Pos → Shared → Prop) (ε : Value → Pos → Shared → Prop) (π : Pos) (σ : Shared) :
    wpL M Γ (m.tryCatch h) φ ε π σ = wpL M Γ m φ (fun x π' σ' => wpL M Γ (h x) φ ε π' σ') π σ := by
  induction m generalizing π σ <;> simp only [Sem.tryCatch, wpL, *]
theorem wpL_onRaise {α : Type} (Γ : Ctx) (m : Sem α) (h : Value → Sem Unit) (φ : α → Pos → Shared → Prop) (ε : Value → Pos → Shared → Prop) (π : Pos) (σ : Shared) :
    wpL M Γ (m.onRaise h) φ ε π σ = wpL M Γ m φ (fun x π' σ' => wpL M Γ (h x) (fun _ π'' σ'' => ε x π'' σ'') ε π' σ') π σ := by
  induction m generalizing π σ <;> simp only [Sem.onRaise, wpL, wpL_bind, *]
theorem wpL_attempt {α : Type} (Γ : Ctx) (m : Sem α) (φ : Except Value α → Pos → Shared → Prop) (ε : Value → Pos → Shared → Prop) (π : Pos) (σ : Shared) :
    wpL M Γ m.attempt φ ε π σ = wpL M Γ m (fun a => φ (.ok a)) (fun x => φ (.error x)) π σ := by
  simp only [Sem.attempt, wpL_tryCatch, wpL_bind, wpL]
theorem wpL_keep {α : Type} (Γ : Ctx) (vs : List Value) (m : Sem α) (φ : α → Pos → Shared → Prop) (ε : Value → Pos → Shared → Prop) (π : Pos) (σ : Shared) :
    wpL M Γ (m.keep vs) φ ε π σ = wpL M Γ m φ ε π σ := by
  induction m generalizing π σ <;> simp only [Sem.keep, wpL, *]
theorem wpL_holding {α : Type} (Γ : Ctx) (vs : List Value) (m : Sem α) (φ : α → Pos → Shared → Prop) (ε : Value → Pos → Shared → Prop) (π : Pos) (σ : Shared) :
    wpL M Γ (holding vs m) φ ε π σ = wpL M Γ m φ ε π σ := by
  unfold holding
  split
  · rfl
  · rw [wpL_keep]
theorem wpL_mono {α : Type} (Γ : Ctx) (m : Sem α) {φ ψ : α → Pos → Shared → Prop} {ε δ : Value → Pos → Shared → Prop} (hq : ∀ a π σ, φ a π σ → ψ a π σ) (he : ∀ x π σ, ε x π σ → δ x π σ) :
    ∀ π σ, wpL M Γ m φ ε π σ → wpL M Γ m ψ δ π σ := by
  induction m with
  | pure x => exact fun π σ => hq x π σ
  | raise x => exact fun π σ => he x π σ
  | unsupported | finish | yield | fork | await | register => exact fun _ _ => id
  | load a _ k ih | genState a k ih => exact fun π σ ⟨o, ho, h⟩ => ⟨o, ho, ih _ _ _ h⟩
  | update a _ f k ih | choose _ _ k ih => exact fun π σ ⟨ha, h⟩ => ⟨ha, ih _ _ _ h⟩
  | call c h g l k ih => exact fun π σ ⟨r, z, w, h⟩ => ⟨r, z, w, ih r _ _ h⟩
  | resume g r l k ih => exact fun π σ ⟨r, z, w, h⟩ => ⟨r, z, w, ih r _ _ h⟩
  | _ => rename_i ih; exact fun π σ => ih _ _ _
theorem wpL_of_wp {α : Type} (Γ : Ctx) (m : Sem α) {φ : α → Pos → Shared → Prop} {ε : Value → Pos → Shared → Prop} : ∀ π σ, Sem.wp M Γ m φ ε π σ → wpL M Γ m φ ε π σ := by
  induction m with
  | pure x => exact fun _ _ => id
  | raise x => exact fun _ _ => id
  | unsupported | finish | yield | fork | await | register => exact fun _ _ => id
  | load a _ k ih | genState a k ih => exact fun π σ ⟨o, ho, h⟩ => ⟨o, ho, ih _ _ _ h⟩
  | update a _ f k ih | choose _ _ k ih => exact fun π σ ⟨ha, h⟩ => ⟨ha, ih _ _ _ h⟩
  | call c h g l k ih => exact fun π σ ⟨r, z, w, q⟩ => ⟨r, z, fun base hb => .ofReach (runs_reach (show Runs M _ π (M.den c) [] σ (.ret r) z from w) base hb), ih r _ _ q⟩
  | resume g r l k ih => exact fun π σ ⟨r, z, w, h⟩ => ⟨r, z, .inl w, ih r _ _ h⟩
  | _ => rename_i ih; exact fun π σ => ih _ _ _
end
end TF
/-! ## TfWp -/
/-! from a tree's wish to the machine; the rules -/
namespace TF
open PySem
section
variable {M : Model}
theorem marked {Γ : Ctx} {fs base : List Frame} (hb : Γ.Fits base) : (Γ.over fs).Fits (fs ++ base) := hb.over fs
/-- a call: the callee comes back, then the rest -/
theorem Gets.called {Γ : Ctx} {p : Pos} {c : Code} {h : Option Value} {g : Bool} {l : List Value} {k : Result → Sem PySem.Fin} {fs : List Frame} {s y : Shared} {r : Result} {Φ : End → Shared → Prop}
    (w : ∀ base, ((Γ.over fs).enter c h p).Fits base → Way M base s (M.den c) c p [] y (.ret r)) (q : Gets M Γ p (k r) fs y Φ) : Gets M Γ p (.call c h g l k) fs s Φ := by
  obtain ⟨e, z, w2, i⟩ := q
  refine ⟨e, z, fun base hb => ?_, i⟩
  have hf : ((Γ.over fs).enter c h p).Fits (.ret k h g l Γ.code p [] :: (fs ++ base)) := (marked hb).enter c k h g l p []
  refine .calm (pre1 := .ret k h g l Γ.code p [] :: fs) (step_call ..) ?_
  refine Way.under (B := .ret k h g l Γ.code p [] :: fs) (pre := []) (w _ hf) ?_
  rintro _ _ _ _ ⟨rfl, rfl⟩
  exact .calm (pre1 := fs) (step_leaf_ret ..) (w2 base hb)
/-- a generator's turn ends: the waking goes on -/
theorem Way.woken {base : List Frame} {g : Nat} {k : GenResult → Sem PySem.Fin} {l : List Value} {c : Code} {p : Pos} {fs : List Frame} {s y z : Shared} {t : Sem PySem.Fin} {c1 : Code} {p1 : Pos} {pre : List Frame} {e d : End}
    (w : Way M (.gen g k l c p :: (fs ++ base)) s t c1 p1 pre y d) (ok : OkEnd d y) (w2 : Way M base (y.setGen g d.genState) (k d.result) c p fs z e) : Way M base s t c1 p1 (pre ++ .gen g k l c p :: fs) z e := by
  refine Way.under (B := .gen g k l c p :: fs) (pre := pre) w ?_
  intro t' c' p' pre' hx
  rcases ok with hq | ⟨v, l2, kk, c2, p2, fs2, rfl, hsp, hd⟩
  · exact .calm (pre1 := fs) (by simpa only [List.append_assoc, List.cons_append, List.nil_append] using step_exit_gen y g k l c p (fs ++ base) hx hq) w2
  · obtain ⟨rfl, rfl, rfl, rfl, _⟩ := hx
    have e1 : (End.susp v true l2 kk c' p' pre').genState = .suspended kk l2 c' p' pre' true := by simp [End.genState]
    rw [e1] at w2
    refine .deleg (fs := pre') (pre1 := fs) ?_ hd w2
    rw [splitAtGen_append_none _ hsp, splitAtGen_gen]; simp
theorem Gets.woken {Γ : Ctx} {p : Pos} {g : Nat} {r : Resume} {l : List Value} {k : GenResult → Sem PySem.Fin} {fs : List Frame} {s y : Shared} {res : GenResult} {Φ : End → Shared → Prop}
    (w : WakeL M (Γ.over fs) p g r s res y) (q : Gets M Γ p (k res) fs y Φ) : Gets M Γ p (.resume g r l k) fs s Φ := by
  obtain ⟨e, z, w2, i⟩ := q
  refine ⟨e, z, fun base hb => ?_, i⟩
  have w3 := w2 base hb
  have hfr : ∀ c1, ((Γ.over fs).wake c1 p).Fits (.gen g k l Γ.code p :: (fs ++ base)) := fun c1 => (marked hb).wake c1 g k l p
  rcases w with w | ⟨gs, d, x, hg, ok, rfl, rfl, hr⟩
  · unfold Wakes at w
    cases hg : s.gens[g]? with
    | none => rw [hg] at w; exact w.elim
    | some gs =>
      rw [hg] at w
      cases gs with
      | fresh c =>
        cases r with
        | send v =>
          by_cases hv : v = .none
          · subst hv
            obtain ⟨d, x, h1, hq, rfl, rfl⟩ := w
            refine .calm (pre1 := .gen g k l Γ.code p :: fs) (step_resume_fresh _ _ _ _ _ _ _ hg) ?_
            exact Way.woken (pre := []) (.ofReach (runs_reach h1 _ (hfr c))) (.inl hq) w3
          · have : res = .justStarted ∧ y = s := by cases v <;> first | exact absurd rfl hv | exact w
            obtain ⟨rfl, rfl⟩ := this
            exact .calm (pre1 := fs) (step_resume_justStarted _ _ _ _ _ _ _ hg hv) w3
        | throw x =>
          obtain ⟨rfl, rfl⟩ := w
          exact .calm (pre1 := fs) (step_resume_throwFresh _ _ _ _ _ _ _ _ hg) w3
      | suspended k0 l0 c0 p0 fs0 cl =>
        obtain ⟨d, x, h1, hq, rfl, rfl⟩ := w
        refine .calm (pre1 := fs0 ++ .gen g k l Γ.code p :: fs) (by simpa only [List.append_assoc, List.cons_append, List.nil_append] using step_resume_suspended M s Γ.code p (fs ++ base) r l k hg) ?_
        exact Way.woken (.ofReach (runs_reach h1 _ (hfr c0))) (.inl hq) w3
      | running => obtain ⟨rfl, rfl⟩ := w; exact .calm (pre1 := fs) (step_resume_running _ _ _ _ _ _ _ _ hg) w3
      | finished => obtain ⟨rfl, rfl⟩ := w; exact .calm (pre1 := fs) (step_resume_finished _ _ _ _ _ _ _ _ hg) w3
  · cases gs with
    | fresh c =>
      obtain ⟨rfl, h1⟩ := hr
      refine .calm (pre1 := .gen g k l Γ.code p :: fs) (step_resume_fresh _ _ _ _ _ _ _ hg) ?_
      exact Way.woken (pre := []) (h1 _ (hfr c)) ok w3
    | suspended k0 l0 c0 p0 fs0 cl =>
      refine .calm (pre1 := fs0 ++ .gen g k l Γ.code p :: fs) (by simpa only [List.append_assoc, List.cons_append, List.nil_append] using step_resume_suspended M s Γ.code p (fs ++ base) r l k hg) ?_
      exact Way.woken (hr _ (hfr c0)) ok w3
    | running => exact hr.elim
    | finished => exact hr.elim
theorem gets_wrap {α : Type} {Γ : Ctx} {fs : List Frame} {Φ : End → Shared → Prop} (K : α → Sem PySem.Fin) (J : Value → Sem PySem.Fin) (gd : Bool → Bool) (lv : List Value → List Value) (m : Sem α) :
    ∀ {φ : α → Pos → Shared → Prop} {ε : Value → Pos → Shared → Prop} {p : Pos} {s : Shared}, wpL M (Γ.over fs) m φ ε p s → (∀ a q y, φ a q y → Gets M Γ q (K a) fs y Φ) → (∀ x q y, ε x q y → Gets M Γ q (J x) fs y Φ) →
      Gets M Γ p (m.wrap K J gd lv) fs s Φ := by
  induction m with
  | pure a => intro φ ε p s h hQ _; exact hQ a p s h
  | raise x => intro φ ε p s h _ hE; exact hE x p s h
  | unsupported | finish | register | yield | fork | await => intro φ ε p s h; exact h.elim
  | rule tag k ih => intro φ ε p s h hQ hE; exact .step (fun _ _ => step_rule ..) (ih () h hQ hE)
  | «at» q k ih => intro φ ε p s h hQ hE; exact .step (fun _ _ => step_at ..) (ih () h hQ hE)
  | load a part k ih => intro φ ε p s h hQ hE; obtain ⟨o, ho, h⟩ := h; exact .step (fun _ _ => step_load _ _ _ _ _ _ _ ho) (ih o h hQ hE)
  | update a part f k ih => intro φ ε p s h hQ hE; obtain ⟨ha, h⟩ := h; exact .step (fun _ _ => step_update _ _ _ _ _ _ _ _ ha) (ih () h hQ hE)
  | alloc o k ih => intro φ ε p s h hQ hE; exact .step (fun _ _ => step_alloc ..) (ih _ h hQ hE)
  | loadIfAlive a k ih => intro φ ε p s h hQ hE; exact .step (fun _ _ => step_loadIfAlive ..) (ih _ h hQ hE)
  | point l k ih => intro φ ε p s h hQ hE; exact .step (fun _ _ => step_point ..) (ih () h hQ hE)
  | fresh k ih => intro φ ε p s h hQ hE; exact .step (fun _ _ => step_fresh ..) (ih _ h hQ hE)
  | ask k ih => intro φ ε p s h hQ hE; exact .step (fun _ _ => step_ask ..) (ih _ h hQ hE)
  | choose src n k ih => intro φ ε p s h hQ hE; obtain ⟨hn, h⟩ := h; exact .step (fun _ _ => step_choose _ _ _ _ _ _ _ hn) (ih _ h hQ hE)
  | os q l k ih => intro φ ε p s h hQ hE; exact .step (fun _ _ => step_os ..) (ih _ h hQ hE)
  | call c h g l k ih => intro φ ε p s hw hQ hE; obtain ⟨r, z, w, hw⟩ := hw; exact .called w (ih r hw hQ hE)
  | handled own k ih =>
    intro φ ε p s h hQ hE
    refine .step (fun base hb => ?_) (ih _ h hQ hE)
    have f := marked (fs := fs) hb
    have e1 : (if own = true then (Γ.over fs).own else (Γ.over fs).handled) = topHandled (if own = true then ownFrames (fs ++ base) else fs ++ base) := by
      cases own
      · exact f.handled
      · exact f.own
    rw [e1]
    exact step_handled ..
  | newGen c k ih => intro φ ε p s h hQ hE; exact .step (fun _ _ => step_newGen ..) (ih _ h hQ hE)
  | genState g k ih => intro φ ε p s h hQ hE; obtain ⟨x, hg, h⟩ := h; exact .step (fun _ _ => step_genState _ _ _ _ _ _ hg) (ih _ h hQ hE)
  | resume g r l k ih => intro φ ε p s h hQ hE; obtain ⟨res, z, w, h⟩ := h; exact .woken w (ih res h hQ hE)
  | stack k ih =>
    intro φ ε p s h hQ hE
    refine .step (fun base hb => ?_) (ih _ h hQ hE)
    have f := marked (fs := fs) hb
    rw [f.below]
    exact step_stack ..
  | thread k ih => intro φ ε p s h hQ hE; exact .step (fun _ _ => step_thread ..) (ih _ h hQ hE)
/-! ### over every context of an around -/
def Real (Γ : Ctx) : Prop := ∃ base, Γ.Fits base
theorem Real.enter {Γ : Ctx} (h : Real Γ) (c : Code) (hd : Option Value) (p : Pos) : Real (Γ.enter c hd p) := let ⟨b, f⟩ := h; ⟨_, f.enter c (fun _ => .unsupported "") hd false [] p []⟩
theorem Real.wake {Γ : Ctx} (h : Real Γ) (c : Code) (p : Pos) : Real (Γ.wake c p) := let ⟨b, f⟩ := h; ⟨_, f.wake c 0 (fun _ => .unsupported "") [] p⟩
theorem Real.goto {Γ : Ctx} (h : Real Γ) (c : Code) : Real (Γ.goto c) := let ⟨b, f⟩ := h; ⟨_, f.goto c⟩
theorem Real.over {Γ : Ctx} (h : Real Γ) (fs : List Frame) : Real (Γ.over fs) := let ⟨b, f⟩ := h; ⟨_, f.over fs⟩
def WL {α : Type} (M : Model) (A : Around) (m : Sem α) (Q : α → Shared → Prop) (E : Value → Shared → Prop) (s : Shared) : Prop :=
  ∀ Γ p, Real Γ → Γ.In A → wpL M Γ m (fun a _ y => Q a y) (fun x _ y => E x y) p s
def CL (M : Model) (A : Around) (c : Code) (R : Result → Shared → Prop) (s : Shared) : Prop :=
  ∀ Γ p, Real Γ → Γ.code = c → Γ.Below A → Gets M Γ p (M.den c) [] s fun e z => ∃ r, e = .ret r ∧ R r z
variable {A : Around} {α β : Type} {E : Value → Shared → Prop} {s : Shared}
theorem WL.of {m : Sem α} {Q : α → Shared → Prop} (h : wpAny M A m Q E s) : WL M A m Q E s := fun Γ p _ hΓ => wpL_of_wp Γ m p s (h Γ p hΓ)
theorem WL.mono {m : Sem α} {Q R : α → Shared → Prop} {F : Value → Shared → Prop} (h : WL M A m Q E s) (hq : ∀ a y, Q a y → R a y) (he : ∀ x y, E x y → F x y) : WL M A m R F s :=
  fun Γ p hr hΓ => wpL_mono Γ m (fun a _ y => hq a y) (fun x _ y => he x y) p s (h Γ p hr hΓ)
theorem WL.thn {m : Sem α} {Q R : α → Shared → Prop} (h : WL M A m Q E s) (hq : ∀ a y, Q a y → R a y) : WL M A m R E s := h.mono hq fun _ _ x => x
theorem WL.pure {a : α} {Q : α → Shared → Prop} (h : Q a s) : WL M A (Pure.pure a : Sem α) Q E s := fun _ _ _ _ => h
theorem WL.throw {x : Value} {Q : α → Shared → Prop} (h : E x s) : WL M A (Sem.raise x : Sem α) Q E s := fun _ _ _ _ => h
theorem WL.bind {m : Sem α} {f : α → Sem β} {Q : β → Shared → Prop} (h : WL M A m (fun a y => WL M A (f a) Q E y) E s) : WL M A (m >>= f) Q E s := fun Γ p hr hΓ => by
  rw [wpL_bind']
  exact wpL_mono Γ m (fun a q y i => i Γ q hr hΓ) (fun _ _ _ i => i) p s (h Γ p hr hΓ)
theorem WL.attempt {m : Sem α} {Q : Except Value α → Shared → Prop} (h : WL M A m (fun a => Q (.ok a)) (fun x => Q (.error x)) s) : WL M A m.attempt Q E s := fun Γ p hr hΓ => by
  rw [wpL_attempt]; exact h Γ p hr hΓ
theorem WL.onRaise {m : Sem α} {k : Value → Sem Unit} {Q : α → Shared → Prop} (h : WL M A m Q (fun x y => WL M A (k x) (fun _ z => E x z) E y) s) : WL M A (m.onRaise k) Q E s := fun Γ p hr hΓ => by
  rw [wpL_onRaise]
  exact wpL_mono Γ m (fun _ _ _ i => i) (fun x q y i => i Γ q hr hΓ) p s (h Γ p hr hΓ)
theorem WL.holding {vs : List Value} {m : Sem α} {Q : α → Shared → Prop} (h : WL M A m Q E s) : WL M A (PySem.holding vs m) Q E s := fun Γ p hr hΓ => by
  rw [wpL_holding]; exact h Γ p hr hΓ
theorem WL.keep {vs : List Value} {m : Sem α} {Q : α → Shared → Prop} (h : WL M A m Q E s) : WL M A (m.keep vs) Q E s := fun Γ p hr hΓ => by
  rw [wpL_keep]; exact h Γ p hr hΓ
theorem WL.at {p0 : Pos} {k : Unit → Sem α} {Q : α → Shared → Prop} (h : WL M A (k ()) Q E s) : WL M A (.at p0 k) Q E s := fun Γ p hr hΓ => h Γ p0 hr hΓ
theorem WL.standAt {p0 : Pos} {Q : Unit → Shared → Prop} (h : Q () s) : WL M A (PySem.standAt p0) Q E s := fun _ _ _ _ => h
theorem WL.rule {tag : String} {Q : Unit → Shared → Prop} (h : Q () s) : WL M A (PySem.rule tag) Q E s := fun _ _ _ _ => h
theorem way_of_cl {c : Code} {R : Result → Shared → Prop} (h : CL M A c R s) {Γ : Ctx} {p : Pos} (hr : Real Γ) (hc : Γ.code = c) (hb : Γ.Below A) : ∃ r z, (∀ base, Γ.Fits base → Way M base s (M.den c) c p [] z (.ret r)) ∧ R r z := by
  obtain ⟨e, z, w, r, rfl, q⟩ := h Γ p hr hc hb
  exact ⟨r, z, fun base hf => by rw [← hc]; exact hc ▸ w base hf, q⟩
theorem WL.callNode {c : Code} {hd : Option Value} {g : Bool} {l : List Value} {k : Result → Sem α} {Q : α → Shared → Prop} (hnb : hd ≠ some byPass) (h : CL M (A.mark hd) c (fun r y => WL M A (k r) Q E y) s) : WL M A (.call c hd g l k) Q E s := fun Γ p hr hΓ => by
  obtain ⟨r, z, w, q⟩ := way_of_cl h (Γ := Γ.enter c hd p) (p := p) (hr.enter c hd p) rfl (hΓ.enter c hd p hnb)
  exact ⟨r, z, w, q Γ p hr hΓ⟩
theorem CL.mono {c : Code} {R T : Result → Shared → Prop} (h : CL M A c R s) (i : ∀ r y, R r y → T r y) : CL M A c T s := fun Γ p hr hc hb =>
  (h Γ p hr hc hb).mono fun e z ⟨r, er, q⟩ => ⟨r, er, i r z q⟩
theorem WL.run {c : Code} {Q : Flow → Shared → Prop} (h : CL M A c (fun r y => match r with | .ok f => Q f y | .error x => E x y) s) : WL M A (PySem.run c) Q E s := by
  refine WL.callNode (by intro x; cases x) (A := A) (h.mono fun r y q => ?_)
  cases r with
  | ok f => exact fun _ _ _ _ => q
  | error x => exact fun _ _ _ _ => q
theorem WL.runValue {c : Code} {Q : Value → Shared → Prop} (h : CL M A c (fun r y => match r with | .ok (.ret v) => Q v y | .ok _ => False | .error x => E x y) s) : WL M A (PySem.runValue c) Q E s := by
  refine WL.bind (WL.run (h.mono fun r y q => ?_))
  cases r with
  | error x => exact q
  | ok f => cases f <;> first | exact WL.pure q | exact q.elim
theorem WL.call {f : Value} {pos : List Value} {kw : List (Str × Value)} {Q : Value → Shared → Prop}
    (h : CL M A (.call f ⟨pos, kw⟩) (fun r y => match r with | .ok (.ret v) => Q v y | .ok _ => False | .error x => E x y) s) : WL M A (PySem.call f pos kw) Q E s := WL.runValue h
theorem wrap_id {α : Type} (m : Sem α) : m.wrap Sem.pure Sem.raise id id = m := by
  induction m <;> simp only [Sem.wrap, id, *]
theorem over_nil (Γ : Ctx) : Γ.over [] = Γ := by
  cases Γ; rfl
theorem CL.tree {c : Code} {R : Result → Shared → Prop} (h : WL M (A.under c) (M.den c) (fun fin y => match fin with | .done f => R (.ok f) y | .again d => d.quiet = true ∧ CL M A d R y) (fun x y => R (.error x) y) s) : CL M A c R s := by
  intro Γ p hr hc hb
  have h1 := h Γ p hr (hc ▸ hb.in)
  rw [← wrap_id (M.den c)]
  refine gets_wrap (φ := fun fin _ y => _) (ε := fun x _ y => _) Sem.pure Sem.raise id id (M.den c) (by rw [over_nil]; exact h1) (fun fin q y i => ?_) fun x q y i => ?_
  · cases fin with
    | done f => exact ⟨.ret (.ok f), y, fun _ _ => .out ⟨rfl, rfl⟩, .ok f, rfl, i⟩
    | again d =>
      obtain ⟨hq, i⟩ := i
      obtain ⟨e, z, w, i⟩ := i (Γ.goto d) q (hr.goto d) rfl (hb.goto d)
      exact ⟨e, z, fun base hf => .calm (pre1 := []) (step_again _ _ _ _ _ _ hq) (w base (hf.goto d)), i⟩
  · exact ⟨.ret (.error x), y, fun _ _ => .out ⟨rfl, rfl⟩, .error x, rfl, i⟩
theorem CL.of {c : Code} {R : Result → Shared → Prop} (h : codeAny M A c R s) : CL M A c R s := fun Γ p _ hc hb => by
  obtain ⟨r, z, w, q⟩ := h Γ p hc hb
  exact ⟨.ret r, z, fun base hf => .ofReach (runs_reach (show Runs M Γ p (M.den c) [] s (.ret r) z from hc ▸ w) base hf), r, rfl, q⟩
end
end TF
/-! ## TfPsn -/
/-! a run over sleepers that nobody can wake is a run over the true sleepers, and they stand behind it -/
namespace TF
open PySem PySem.W PyProof.Rows
def IsSusp : GenState → Bool
  | .suspended .. => true
  | _ => false
/-- a sleeper that nobody can wake -/
def psn : GenState → GenState
  | .suspended _ l c p fs _ => .suspended (fun _ => .unsupported "tf: asleep") l c p fs false
  | x => x
def sleepers (s : Shared) (i : Nat) : Option GenState := (s.gens[i]?).filter IsSusp
def scrub (s : Shared) : Shared := { s with gens := s.gens.map psn }
def rst (X : Nat → Option GenState) (s : Shared) : Shared := { s with gens := s.gens.mapIdx fun i y => (X i).getD y }
theorem psn_bare (x : GenState) : (psn x).bare = true := by cases x <;> rfl
theorem psn_seen (x : GenState) : (psn x).seen = x.seen := by cases x <;> rfl
theorem scrub_bare (s : Shared) : AllBare (scrub s).gens := fun y hy => by
  obtain ⟨i, hi, e⟩ := Array.mem_iff_getElem.mp hy
  have : y = psn (s.gens[i]'(by simpa [scrub] using hi)) := by rw [← e]; simp [scrub]
  rw [this]; exact psn_bare _
section
variable {X : Nat → Option GenState} {s : Shared}
theorem rst_at (i : Nat) : (rst X s).gens[i]? = (s.gens[i]?).map fun y => (X i).getD y := by
  simp [rst, Array.getElem?_mapIdx]
theorem rst_size : (rst X s).gens.size = s.gens.size := by simp [rst]
theorem shared_ext {s t : Shared} (h1 : s.heap = t.heap) (h2 : ∀ i : Nat, s.gens[i]? = t.gens[i]?) (h3 : s.drawn = t.drawn) (h4 : s.toks = t.toks) (h5 : s.os = t.os) : s = t := by
  obtain ⟨a, b, c, d, e⟩ := s
  obtain ⟨a', b', c', d', e'⟩ := t
  have : b = b' := Array.ext_getElem? h2
  simp_all
theorem rst_set {g : Nat} {x : GenState} (h : X g = none) : rst X (s.setGen g x) = (rst X s).setGen g x := by
  refine shared_ext rfl (fun i => ?_) rfl rfl rfl
  rw [rst_at]
  show ((s.gens.setIfInBounds g x)[i]?).map _ = ((rst X s).gens.setIfInBounds g x)[i]?
  by_cases e : g = i
  · subst e
    by_cases hg : g < s.gens.size
    · have hg2 : g < (rst X s).gens.size := by rw [rst_size]; exact hg
      simp [hg, hg2, h]
    · have hg2 : ¬ g < (rst X s).gens.size := by rw [rst_size]; exact hg
      simp [hg, hg2]
  · rw [Array.getElem?_setIfInBounds_ne e, Array.getElem?_setIfInBounds_ne e, rst_at]
theorem rst_push {x : GenState} (h : X s.gens.size = none) : rst X { s with gens := s.gens.push x } = { rst X s with gens := (rst X s).gens.push x } := by
  refine shared_ext rfl (fun i => ?_) rfl rfl rfl
  rw [rst_at]
  show ((s.gens.push x)[i]?).map _ = ((rst X s).gens.push x)[i]?
  rw [Array.getElem?_push, Array.getElem?_push, rst_size]
  split
  · rename_i e; subst e; simp [h]
  · rw [rst_at]
/-- the sleepers of X sleep for ever, the others' frames hold no generator's frame -/
structure Psnd (X : Nat → Option GenState) (s : Shared) : Prop where
  at_ : ∀ i x, X i = some x → s.gens[i]? = some (psn x)
  sus : ∀ i x, X i = some x → IsSusp x = true
  clean : ∀ i k l c p fs cl, X i = none → s.gens[i]? = some (.suspended k l c p fs cl) → splitAtGen fs = none
theorem Psnd.same {t : Shared} (h : Psnd X s) (e : t.gens = s.gens) : Psnd X t := ⟨fun i x q => by rw [e]; exact h.at_ i x q, h.sus, fun i k l c p fs cl a b => h.clean i k l c p fs cl a (by rw [← e]; exact b)⟩
theorem Psnd.none_of {g : Nat} {x : GenState} (h : Psnd X s) (hg : s.gens[g]? = some x) (hx : IsSusp x = false) : X g = none := by
  cases e : X g with
  | none => rfl
  | some y =>
    have a := h.at_ g y e
    rw [hg] at a
    have b := h.sus g y e
    cases a
    cases y <;> simp_all [psn, IsSusp]
theorem Psnd.above {g : Nat} (h : Psnd X s) (hg : s.gens.size ≤ g) : X g = none := by
  cases e : X g with
  | none => rfl
  | some y =>
    have a := h.at_ g y e
    rw [Array.getElem?_eq_none hg] at a
    cases a
theorem Psnd.set {g : Nat} {x : GenState} (h : Psnd X s) (hg : X g = none) (hx : ∀ k l c p fs cl, x = .suspended k l c p fs cl → splitAtGen fs = none) : Psnd X (s.setGen g x) := by
  refine ⟨fun i y q => ?_, h.sus, fun i k l c p fs cl a b => ?_⟩
  · have hi : g ≠ i := fun e => by subst e; rw [hg] at q; cases q
    show (s.gens.setIfInBounds g x)[i]? = _
    rw [Array.getElem?_setIfInBounds_ne hi]; exact h.at_ i y q
  · have b' : (s.gens.setIfInBounds g x)[i]? = some (.suspended k l c p fs cl) := b
    by_cases e : g = i
    · subst e
      by_cases hs : g < s.gens.size
      · rw [Array.getElem?_setIfInBounds_self_of_lt hs] at b'
        exact hx k l c p fs cl (Option.some.inj b')
      · rw [Array.getElem?_eq_none (by simpa using hs)] at b'; cases b'
    · rw [Array.getElem?_setIfInBounds_ne e] at b'
      exact h.clean i k l c p fs cl a b'
theorem Psnd.push {c : Code} (h : Psnd X s) : Psnd X { s with gens := s.gens.push (.fresh c) } := by
  refine ⟨fun i y q => ?_, h.sus, fun i k l c' p fs cl a b => ?_⟩
  · show (s.gens.push _)[i]? = _
    have hi : i < s.gens.size := by
      have := h.at_ i y q
      exact (Array.getElem?_eq_some_iff.mp this).1
    rw [Array.getElem?_push_lt hi, ← Array.getElem?_eq_getElem hi]
    exact h.at_ i y q
  · have b' : (s.gens.push (.fresh c))[i]? = some (.suspended k l c' p fs cl) := b
    rw [Array.getElem?_push] at b'
    split at b'
    · cases b'
    · exact h.clean i k l c' p fs cl a b'
theorem Psnd.gens {g : Nat} {x : GenState} (h : Psnd X s) (hg : s.gens[g]? = some x) (hn : X g = none) : (rst X s).gens[g]? = some x := by
  rw [rst_at, hg, hn]; rfl
/-- what is woken is no sleeper of X, or the machine stops -/
theorem psn_seen_at {g : Nat} {x : GenState} (h : Psnd X s) (hg : s.gens[g]? = some x) : ∃ y, (rst X s).gens[g]? = some y ∧ y.seen = x.seen := by
  cases e : X g with
  | none => exact ⟨x, h.gens hg e, rfl⟩
  | some y =>
    have a := h.at_ g y e
    rw [hg] at a; cases a
    exact ⟨y, by rw [rst_at, hg, e]; rfl, (psn_seen y).symm⟩
end
/-- no frame of a sleeper of X -/
def NoD (X : Nat → Option GenState) (pre : List Frame) : Prop := ∀ g k l c p, Frame.gen g k l c p ∈ pre → X g = none
theorem NoD.of_split {X : Nat → Option GenState} : ∀ {fs : List Frame}, splitAtGen fs = none → NoD X fs
  | [], _ => fun _ _ _ _ _ h => by cases h
  | .gen .. :: _, h => by cases h
  | .ret k h' g l c p kp :: fs, h => by
    rw [splitAtGen_ret] at h
    have hs : splitAtGen fs = none := by cases e : splitAtGen fs <;> simp_all
    intro g k l c p hm
    cases hm with
    | tail _ hm => exact NoD.of_split hs g k l c p hm
theorem split_mem : ∀ {pre fs rest : List Frame} {g : Nat} {k : GenResult → Sem PySem.Fin} {c : Code} {p : Pos}, splitAtGen pre = some (fs, (g, k, c, p), rest) → (∃ l, Frame.gen g k l c p ∈ pre) ∧ ∀ F ∈ rest, F ∈ pre
  | [], _, _, _, _, _, _, h => by cases h
  | .gen g' k' l' c' p' :: r, fs, rest, g, k, c, p, h => by
    simp only [splitAtGen_gen, Option.some.injEq, Prod.mk.injEq] at h
    obtain ⟨_, ⟨rfl, rfl, rfl, rfl⟩, rfl⟩ := h
    exact ⟨⟨l', List.mem_cons_self⟩, fun F hF => List.mem_cons_of_mem _ hF⟩
  | .ret k' h' g' l' c' p' kp :: r, fs, rest, g, k, c, p, h => by
    rw [splitAtGen_ret] at h
    cases e : splitAtGen r with
    | none => simp [e] at h
    | some x =>
      obtain ⟨a, b, d⟩ := x
      simp only [e, Option.map_some, Option.some.injEq, Prod.mk.injEq] at h
      obtain ⟨_, rfl, rfl⟩ := h
      obtain ⟨⟨l, hl⟩, hr⟩ := split_mem e
      exact ⟨⟨l, List.mem_cons_of_mem _ hl⟩, fun F hF => List.mem_cons_of_mem _ (hr F hF)⟩
section
variable {M : Model} {X : Nat → Option GenState} {base : List Frame}
theorem way_stuck {s z : Shared} {c : Code} {p : Pos} {pre : List Frame} {e : End} {what : String} (h : Way M base s (.unsupported what) c p pre z e) : False := by
  cases h with
  | out x =>
    cases e with
    | ret r => obtain ⟨q, _⟩ := x; cases r <;> cases q
    | susp v g l k c' p' fs => obtain ⟨q, _⟩ := x; cases q
  | calm h _ => rw [step_unsupported] at h; cases h
theorem gens_step {s s1 : Shared} (h : s1 = s) (j : Psnd X s) : Psnd X s1 := h ▸ j
theorem leaf_rst {s s1 : Shared} {r : Result} {c c1 : Code} {p p1 : Pos} {t1 : Sem PySem.Fin} {pre pre1 : List Frame} (j : Psnd X s) (n : NoD X pre)
    (h : M.step s ⟨leafOf r, c, p, pre ++ base⟩ = .go s1 ⟨t1, c1, p1, pre1 ++ base⟩) : M.step (rst X s) ⟨leafOf r, c, p, pre ++ base⟩ = .go (rst X s1) ⟨t1, c1, p1, pre1 ++ base⟩ ∧ Psnd X s1 ∧ NoD X pre1 := by
  cases pre with
  | nil => exact (exits_no_step (e := .ret r) ⟨rfl, rfl⟩ h).elim
  | cons F fs =>
    have n2 : NoD X fs := fun g k l c p hm => n g k l c p (List.mem_cons_of_mem _ hm)
    cases F with
    | ret k h' g l c' p' kp =>
      rw [List.cons_append, step_leaf_ret] at h
      obtain ⟨rfl, rfl, rfl, rfl, rfl⟩ := go_inj h
      exact ⟨by rw [List.cons_append, step_leaf_ret], j, n2⟩
    | gen g k l c' p' =>
      rw [List.cons_append, step_leaf_gen] at h
      obtain ⟨rfl, rfl, rfl, rfl, rfl⟩ := go_inj h
      have hg := n g k l c' p' List.mem_cons_self
      exact ⟨by rw [List.cons_append, step_leaf_gen, rst_set hg], j.set hg (fun _ _ _ _ _ _ q => by cases q), n2⟩
theorem way_rst {s z : Shared} {t : Sem PySem.Fin} {c : Code} {p : Pos} {pre : List Frame} {e : End} (h : Way M base s t c p pre z e) : Psnd X s → NoD X pre → Way M base (rst X s) t c p pre (rst X z) e ∧ Psnd X z := by
  induction h with
  | out x => exact fun j _ => ⟨.out x, j⟩
  | @deleg s v l kk c p pre fs g k1 c1 p1 pre1 z e h d _ ih =>
    intro j n
    obtain ⟨⟨l', hm⟩, hr⟩ := split_mem h
    have hg := n g k1 l' c1 p1 hm
    have hsp := splitAtGen_pre h
    obtain ⟨w, j2⟩ := ih (j.set hg fun k l c p fs cl q => by cases q; exact hsp) fun g k l c p hm => n g k l c p (hr _ hm)
    refine ⟨.deleg h ?_ (by rw [← rst_set hg]; exact w), j2⟩
    exact d
  | @calm s t c p pre s1 t1 c1 p1 pre1 z e h w ih =>
    intro j n
    have fin : M.step (rst X s) ⟨t, c, p, pre ++ base⟩ = .go (rst X s1) ⟨t1, c1, p1, pre1 ++ base⟩ → Psnd X s1 → NoD X pre1 → Way M base (rst X s) t c p pre (rst X z) e ∧ Psnd X z := fun a b d =>
      ⟨.calm a (ih b d).1, (ih b d).2⟩
    cases t with
    | pure f =>
      cases f with
      | done f => obtain ⟨a, b, d⟩ := leaf_rst (r := .ok f) j n h; exact fin a b d
      | again c' =>
        cases hq : c'.quiet with
        | false => rw [step_again_loud _ _ _ _ _ _ hq] at h; cases h
        | true =>
          rw [step_again _ _ _ _ _ _ hq] at h; obtain ⟨rfl, rfl, rfl, rfl, rfl⟩ := go_inj h
          exact fin (step_again _ _ _ _ _ _ hq) j n
    | raise x => obtain ⟨a, b, d⟩ := leaf_rst (r := .error x) j n h; exact fin a b d
    | unsupported what => rw [step_unsupported] at h; cases h
    | finish x => rw [step_finish] at h; unfold finish at h; split at h <;> cases h
    | rule tag k => rw [step_rule] at h; obtain ⟨rfl, rfl, rfl, rfl, rfl⟩ := go_inj h; exact fin (step_rule ..) j n
    | «at» p' k => rw [step_at] at h; obtain ⟨rfl, rfl, rfl, rfl, rfl⟩ := go_inj h; exact fin (step_at ..) j n
    | load a part k =>
      cases ho : s.heap.get? a with
      | none => obtain ⟨why, q⟩ := step_load_none M s c p (pre ++ base) part k ho; rw [q] at h; cases h
      | some o =>
        rw [step_load M s c p _ part k ho] at h; obtain ⟨rfl, rfl, rfl, rfl, rfl⟩ := go_inj h
        exact fin (step_load M (rst X s) c p _ part k ho) j n
    | loadIfAlive a k => rw [step_loadIfAlive] at h; obtain ⟨rfl, rfl, rfl, rfl, rfl⟩ := go_inj h; exact fin (step_loadIfAlive ..) j n
    | point l k => rw [step_point] at h; obtain ⟨rfl, rfl, rfl, rfl, rfl⟩ := go_inj h; exact fin (step_point ..) j n
    | register a k => rw [step_register] at h; cases h
    | update a part f k =>
      by_cases ha : (s.heap.get? a).isSome
      · rw [step_update M s c p _ part f k ha] at h; obtain ⟨rfl, rfl, rfl, rfl, rfl⟩ := go_inj h
        exact fin (step_update M (rst X s) c p _ part f k ha) (j.same rfl) n
      · obtain ⟨why, q⟩ := step_update_none M s c p (pre ++ base) part f k ha; rw [q] at h; cases h
    | alloc o k => rw [step_alloc] at h; obtain ⟨rfl, rfl, rfl, rfl, rfl⟩ := go_inj h; exact fin (step_alloc ..) (j.same rfl) n
    | fresh k => rw [step_fresh] at h; obtain ⟨rfl, rfl, rfl, rfl, rfl⟩ := go_inj h; exact fin (step_fresh ..) (j.same rfl) n
    | ask k => rw [step_ask] at h; obtain ⟨rfl, rfl, rfl, rfl, rfl⟩ := go_inj h; exact fin (step_ask ..) j n
    | choose src m k =>
      by_cases hn : m = 0
      · subst hn; obtain ⟨why, q⟩ := step_choose_zero M s c p (pre ++ base) src k; rw [q] at h; cases h
      · rw [step_choose M s c p _ src k hn] at h; obtain ⟨rfl, rfl, rfl, rfl, rfl⟩ := go_inj h
        exact fin (step_choose M (rst X s) c p _ src k hn) (j.same rfl) n
    | os q l k => rw [step_os] at h; obtain ⟨rfl, rfl, rfl, rfl, rfl⟩ := go_inj h; exact fin (step_os ..) (j.same rfl) n
    | call c' hd g l k =>
      rw [step_call] at h
      obtain ⟨rfl, rfl, rfl, rfl, rfl⟩ := go_inj (pre := .ret k hd g l c p [] :: pre) h
      refine fin (step_call ..) j fun g k l c p hm => ?_
      cases hm with
      | tail _ hm => exact n g k l c p hm
    | handled own k =>
      rw [step_handled] at h; obtain ⟨rfl, rfl, rfl, rfl, rfl⟩ := go_inj h
      exact fin (step_handled ..) j n
    | genState g k =>
      cases hg : s.gens[g]? with
      | none => obtain ⟨why, q⟩ := step_genState_none M s c p (pre ++ base) k hg; rw [q] at h; cases h
      | some x =>
        rw [step_genState M s c p _ k hg] at h; obtain ⟨rfl, rfl, rfl, rfl, rfl⟩ := go_inj h
        obtain ⟨y, hy, es⟩ := psn_seen_at j hg
        exact fin (by rw [← es]; exact step_genState M (rst X s) c p _ k hy) j n
    | newGen c' k =>
      rw [step_newGen] at h; obtain ⟨rfl, rfl, rfl, rfl, rfl⟩ := go_inj h
      refine fin ?_ j.push n
      rw [rst_push (j.above (Nat.le_refl _)), step_newGen, rst_size]
    | resume g r l k =>
      cases hg : s.gens[g]? with
      | none => obtain ⟨why, q⟩ := step_resume_none M s c p (pre ++ base) r l k hg; rw [q] at h; cases h
      | some gs =>
        have pushed : ∀ fs0 : List Frame, NoD X fs0 → X g = none → NoD X (fs0 ++ .gen g k l c p :: pre) := fun fs0 h0 hX g' k' l' c' p' hm => by
          rcases List.mem_append.mp hm with hm | hm
          · exact h0 g' k' l' c' p' hm
          · cases hm with
            | head => exact hX
            | tail _ hm => exact n g' k' l' c' p' hm
        cases gs with
        | fresh c' =>
          have hX := j.none_of hg rfl
          have hg2 := j.gens hg hX
          cases r with
          | send v =>
            by_cases hv : v = .none
            · subst hv
              rw [step_resume_fresh M s c p _ l k hg] at h
              obtain ⟨rfl, rfl, rfl, rfl, rfl⟩ := go_inj (pre := .gen g k l c p :: pre) h
              exact fin (by rw [rst_set hX]; exact step_resume_fresh M (rst X s) c p _ l k hg2) (j.set hX fun _ _ _ _ _ _ q => by cases q) (pushed [] (fun _ _ _ _ _ h => by cases h) hX)
            · rw [step_resume_justStarted M s c p _ l k hg hv] at h; obtain ⟨rfl, rfl, rfl, rfl, rfl⟩ := go_inj h
              exact fin (step_resume_justStarted M (rst X s) c p _ l k hg2 hv) j n
          | throw x =>
            rw [step_resume_throwFresh M s c p _ x l k hg] at h; obtain ⟨rfl, rfl, rfl, rfl, rfl⟩ := go_inj h
            exact fin (by rw [rst_set hX]; exact step_resume_throwFresh M (rst X s) c p _ x l k hg2) (j.set hX fun _ _ _ _ _ _ q => by cases q) n
        | suspended k0 l0 c0 p0 fs0 cl =>
          rw [step_resume_suspended M s c p _ r l k hg] at h
          obtain ⟨rfl, rfl, rfl, rfl, rfl⟩ := go_inj (pre := fs0 ++ .gen g k l c p :: pre) (by simpa only [List.append_assoc, List.cons_append] using h)
          cases hX : X g with
          | none =>
            have hg2 := j.gens hg hX
            exact fin (by rw [rst_set hX]; simpa only [List.append_assoc, List.cons_append] using step_resume_suspended M (rst X s) c p (pre ++ base) r l k hg2) (j.set hX fun _ _ _ _ _ _ q => by cases q)
              (pushed fs0 (NoD.of_split (j.clean g _ _ _ _ _ _ hX hg)) hX)
          | some y =>
            have a := j.at_ g y hX
            rw [hg] at a
            have b := j.sus g y hX
            cases y with
            | suspended k1 l1 c1 p1 fs1 cl1 =>
              have a' := Option.some.inj a
              simp only [psn, GenState.suspended.injEq] at a'
              obtain ⟨rfl, _⟩ := a'
              exact (way_stuck w).elim
            | _ => cases b
        | running =>
          have hX := j.none_of hg rfl
          rw [step_resume_running M s c p _ r l k hg] at h; obtain ⟨rfl, rfl, rfl, rfl, rfl⟩ := go_inj h
          exact fin (step_resume_running M (rst X s) c p _ r l k (j.gens hg hX)) j n
        | finished =>
          have hX := j.none_of hg rfl
          rw [step_resume_finished M s c p _ r l k hg] at h; obtain ⟨rfl, rfl, rfl, rfl, rfl⟩ := go_inj h
          exact fin (step_resume_finished M (rst X s) c p _ r l k (j.gens hg hX)) j n
    | yield v g l k =>
      cases hs : splitAtGen pre with
      | none => exact (exits_no_step (e := .susp v g l k c p pre) ⟨rfl, rfl, rfl, rfl, hs⟩ h).elim
      | some x =>
        obtain ⟨fs, ⟨g', k', c', p'⟩, rest⟩ := x
        have hsp : splitAtGen (pre ++ base) = some (fs, (g', k', c', p'), rest ++ base) := splitAtGen_append_some _ hs
        obtain ⟨⟨l', hm⟩, hr⟩ := split_mem hs
        have hX := n g' k' l' c' p' hm
        cases hq : (End.susp v g l k c p fs).quiet with
        | false => rw [step_yield_loud M s c p _ v g l k hsp hq] at h; cases h
        | true =>
          rw [step_yield M s c p _ v g l k hsp hq] at h
          obtain ⟨rfl, rfl, rfl, rfl, rfl⟩ := go_inj h
          refine fin (by rw [rst_set hX]; exact step_yield M (rst X s) c p _ v g l k hsp hq) (j.set hX fun k l c p fs cl q => ?_) fun g k l c p hm => n g k l c p (hr _ hm)
          simp only [End.genState, GenState.suspended.injEq] at q
          obtain ⟨_, _, _, _, rfl, _⟩ := q
          exact splitAtGen_pre hs
    | stack k => rw [step_stack] at h; obtain ⟨rfl, rfl, rfl, rfl, rfl⟩ := go_inj h; exact fin (step_stack ..) j n
    | fork c' k => rw [step_fork] at h; cases h
    | thread k => rw [step_thread] at h; obtain ⟨rfl, rfl, rfl, rfl, rfl⟩ := go_inj h; exact fin (step_thread ..) j n
    | await a f d l k => rw [step_await] at h; cases h
end
end TF
/-! ## TfPsnB -/
/-! the same of a tree's wish -/
namespace TF
open PySem PySem.W PyProof.Rows
section
variable {M : Model} {X : Nat → Option GenState} {base : List Frame}
theorem way_rst0 {s z : Shared} {t : Sem PySem.Fin} {c : Code} {p : Pos} {e : End} (h : Way M base s t c p [] z e) (j : Psnd X s) : Way M base (rst X s) t c p [] (rst X z) e ∧ Psnd X z :=
  way_rst h j fun _ _ _ _ _ h => by cases h
theorem way_clean {s z : Shared} {t : Sem PySem.Fin} {c : Code} {p : Pos} {pre : List Frame} {e : End} (h : Way M base s t c p pre z e) : ∀ k l c' p' fs cl, e.genState = .suspended k l c' p' fs cl → splitAtGen fs = none := by
  induction h with
  | @out s t c p pre e x =>
    intro k l c' p' fs cl q
    cases e with
    | ret r => cases q
    | susp v g l2 k2 c2 p2 fs2 =>
      obtain ⟨_, _, _, _, hs⟩ := x
      simp only [End.genState, GenState.suspended.injEq] at q
      rw [← q.2.2.2.2.1]; exact hs
  | calm _ _ ih => exact ih
  | deleg _ _ _ ih => exact ih
theorem okEnd_rst {e : End} {y : Shared} (h : OkEnd e y) : OkEnd e (rst X y) := by
  rcases h with h | ⟨v, l, k, c, p, fs, e1, e2, d⟩
  · exact .inl h
  · exact .inr ⟨v, l, k, c, p, fs, e1, e2, d⟩
theorem runs1_rst {Γ : Ctx} {p : Pos} {g : Nat} {r : Resume} {gs : GenState} {s y : Shared} {e : End} (hR : Real Γ) (j : Psnd X s) (hg : s.gens[g]? = some gs) (ok : OkEnd e y) (hr : Runs1 M Γ p g gs r s e y) :
    WakeL M Γ p g r (rst X s) e.result (rst X (y.setGen g e.genState)) ∧ Psnd X (y.setGen g e.genState) := by
  cases gs with
  | fresh c =>
    have hX := j.none_of hg rfl
    obtain ⟨rfl, w⟩ := hr
    have j1 : Psnd X (s.setGen g .running) := j.set hX fun _ _ _ _ _ _ q => by cases q
    obtain ⟨b0, f0⟩ := hR.wake c p
    have j2 := (way_rst0 (w b0 f0) j1).2
    have cl := way_clean (w b0 f0)
    refine ⟨.inr ⟨.fresh c, e, rst X y, j.gens hg hX, okEnd_rst ok, rfl, rst_set hX, rfl, fun base hf => ?_⟩, j2.set hX cl⟩
    rw [← rst_set hX]
    exact (way_rst0 (w base hf) j1).1
  | suspended k l c q fs cl0 =>
    have j1' : ∀ hX : X g = none, Psnd X (s.setGen g .running) := fun hX => j.set hX fun _ _ _ _ _ _ q => by cases q
    obtain ⟨b0, f0⟩ := hR.wake c p
    cases hX : X g with
    | none =>
      have nd : NoD X fs := NoD.of_split (j.clean g _ _ _ _ _ _ hX hg)
      have j2 := (way_rst (hr b0 f0) (j1' hX) nd).2
      have cl := way_clean (hr b0 f0)
      refine ⟨.inr ⟨_, e, rst X y, j.gens hg hX, okEnd_rst ok, rfl, rst_set hX, fun base hf => ?_⟩, j2.set hX cl⟩
      rw [← rst_set hX]
      exact (way_rst (hr base hf) (j1' hX) nd).1
    | some x =>
      have a := j.at_ g x hX
      rw [hg] at a
      have b := j.sus g x hX
      cases x with
      | suspended k1 l1 c1 p1 fs1 cl1 =>
        have a' := Option.some.inj a
        simp only [psn, GenState.suspended.injEq] at a'
        obtain ⟨rfl, _⟩ := a'
        exact (way_stuck (hr b0 f0)).elim
      | _ => cases b
  | running => exact hr.elim
  | finished => exact hr.elim
theorem wakeL_rst {Γ : Ctx} {p : Pos} {g : Nat} {r : Resume} {s z : Shared} {res : GenResult} (hR : Real Γ) (j : Psnd X s) (h : WakeL M Γ p g r s res z) : WakeL M Γ p g r (rst X s) res (rst X z) ∧ Psnd X z := by
  rcases h with w | ⟨gs, e, y, hg, ok, rfl, rfl, hr⟩
  · have w0 := w
    unfold Wakes at w
    cases hg : s.gens[g]? with
    | none => rw [hg] at w; exact w.elim
    | some gs =>
      rw [hg] at w
      cases gs with
      | fresh c =>
        have hX := j.none_of hg rfl
        have hg2 := j.gens hg hX
        cases r with
        | send v =>
          by_cases hv : v = .none
          · subst hv
            obtain ⟨d, x, h1, hq, rfl, rfl⟩ := w
            exact runs1_rst hR j hg (.inl hq) ⟨rfl, fun base hf => .ofReach (runs_reach h1 base hf)⟩
          · have q : res = .justStarted ∧ z = s := by cases v <;> first | exact absurd rfl hv | exact w
            obtain ⟨rfl, rfl⟩ := q
            exact ⟨.inl (Sem.wakes_justStarted M Γ hg2 hv), j⟩
        | throw x =>
          obtain ⟨rfl, rfl⟩ := w
          exact ⟨.inl (by unfold Wakes; rw [hg2, rst_set hX]; exact ⟨rfl, rfl⟩), j.set hX fun _ _ _ _ _ _ q => by cases q⟩
      | suspended k0 l0 c0 p0 fs0 cl =>
        obtain ⟨d, x, h1, hq, rfl, rfl⟩ := w
        exact runs1_rst hR j hg (.inl hq) fun base hf => .ofReach (runs_reach h1 base hf)
      | running =>
        have hX := j.none_of hg rfl
        obtain ⟨rfl, rfl⟩ := w
        exact ⟨.inl (by unfold Wakes; rw [j.gens hg hX]; exact ⟨rfl, rfl⟩), j⟩
      | finished =>
        have hX := j.none_of hg rfl
        obtain ⟨rfl, rfl⟩ := w
        exact ⟨.inl (by unfold Wakes; rw [j.gens hg hX]; exact ⟨rfl, rfl⟩), j⟩
  · exact runs1_rst hR j hg ok hr
theorem wpL_rst {α : Type} {Γ : Ctx} (hR : Real Γ) (m : Sem α) {φ : α → Pos → Shared → Prop} {ε : Value → Pos → Shared → Prop} : ∀ {p : Pos} {s : Shared}, Psnd X s → wpL M Γ m φ ε p s →
    wpL M Γ m (fun a q y => ∃ z, φ a q z ∧ Psnd X z ∧ y = rst X z) (fun x q y => ∃ z, ε x q z ∧ Psnd X z ∧ y = rst X z) p (rst X s) := by
  induction m with
  | pure a => exact fun j h => ⟨_, h, j, rfl⟩
  | raise x => exact fun j h => ⟨_, h, j, rfl⟩
  | unsupported | finish | register | yield | fork | await => exact fun _ h => h.elim
  | rule tag k ih => exact fun j h => ih _ j h
  | «at» q k ih => exact fun j h => ih _ j h
  | load a part k ih => exact fun j ⟨o, ho, h⟩ => ⟨o, ho, ih _ j h⟩
  | update a part f k ih => exact fun {p s} j ⟨ha, h⟩ => ⟨ha, ih _ (s := { s with heap := s.heap.update a f }) (j.same rfl) h⟩
  | alloc o k ih => exact fun {p s} j h => ih _ (s := { s with heap := s.heap.push o }) (j.same rfl) h
  | loadIfAlive a k ih => exact fun j h => ih _ j h
  | point l k ih => exact fun j h => ih _ j h
  | fresh k ih => exact fun {p s} j h => ih _ (s := { s with toks := s.toks + 1 }) (j.same rfl) h
  | ask k ih => exact fun j h => ih _ j h
  | choose src n k ih => exact fun {p s} j ⟨hn, h⟩ => ⟨hn, ih _ (s := { s with drawn := s.drawn.bump src }) (j.same rfl) h⟩
  | os q l k ih => exact fun {p s} j h => ih _ (s := { s with os := (Os.step s.os q).1 }) (j.same rfl) h
  | call c hd g l k ih =>
    intro p s j ⟨r, z, w, h⟩
    obtain ⟨b0, f0⟩ := hR.enter c hd p
    exact ⟨r, rst X z, fun base hf => (way_rst0 (w base hf) j).1, ih _ (way_rst0 (w b0 f0) j).2 h⟩
  | handled own k ih => exact fun j h => ih _ j h
  | newGen c k ih =>
    intro p s j h
    have q := ih s.gens.size j.push h
    rw [rst_push (j.above (Nat.le_refl _))] at q
    show wpL M Γ (k (rst X s).gens.size) _ _ p _
    rw [rst_size]
    exact q
  | genState g k ih =>
    intro p s j ⟨x, hg, h⟩
    obtain ⟨y, hy, es⟩ := psn_seen_at j hg
    exact ⟨y, hy, by rw [es]; exact ih _ j h⟩
  | resume g r l k ih =>
    intro p s j ⟨res, z, w, h⟩
    obtain ⟨w2, j2⟩ := wakeL_rst hR j w
    exact ⟨res, rst X z, w2, ih _ j2 h⟩
  | stack k ih => exact fun j h => ih _ j h
  | thread k ih => exact fun j h => ih _ j h
/-- the table of generators never shrinks -/
theorem step_gsz {den : Code → Sem PySem.Fin} {prog : Program} {w : World} {s y : Shared} {t u : Thread} (h : stepK den prog w s t = .go y u) : s.gens.size ≤ y.gens.size := by
  obtain ⟨heap, gens, drawn, toks, os⟩ := s
  obtain ⟨cur, code, pos, stack⟩ := t
  unfold stepK at h
  split at h
  · cases h; exact Nat.le_refl _
  · cases h; exact Nat.le_refl _
  · cases cur <;> simp only [step, finish] at h <;> (repeat' split at h) <;> (try cases h) <;> simp
theorem Model.step_gsz {s y : Shared} {t u : Thread} (h : M.step s t = .go y u) : s.gens.size ≤ y.gens.size := by
  cases e : t.loud with
  | true => rw [M.step_loud e] at h; cases h
  | false =>
    rw [M.step_quiet e] at h
    exact TF.step_gsz h
theorem way_gsz {s : Shared} {c : Code} {base : List Frame} {z : Shared} {t : Sem PySem.Fin} {p : Pos} {pre : List Frame} {e : End} (h : Way M base s t c p pre z e) : s.gens.size ≤ z.gens.size := by
  induction h with
  | out => exact Nat.le_refl _
  | calm h _ ih => exact Nat.le_trans (Model.step_gsz h) ih
  | deleg _ _ _ ih =>
    refine Nat.le_trans (Nat.le_of_eq ?_) ih
    simp [Shared.setGen]
theorem wakes_gsz {Γ : Ctx} {p : Pos} {g : Nat} {r : Resume} {s z : Shared} {res : GenResult} (hR : Real Γ) (h : WakeL M Γ p g r s res z) : s.gens.size ≤ z.gens.size := by
  rcases h with w | ⟨gs, e, y, hg, ok, rfl, rfl, hr⟩
  · exact GenW.wakes_gsz w
  · have q : ∀ {t : Sem PySem.Fin} {c : Code} {q : Pos} {fs : List Frame} {b : List Frame}, Way M b (s.setGen g .running) t c q fs y e → s.gens.size ≤ (y.setGen g e.genState).gens.size := fun w => by
      have := way_gsz w
      simpa [Shared.setGen] using this
    cases gs with
    | fresh c => obtain ⟨_, w⟩ := hr; obtain ⟨b, f⟩ := hR.wake c p; exact q (w b f)
    | suspended k l c q0 fs cl => obtain ⟨b, f⟩ := hR.wake c p; exact q (hr b f)
    | running => exact hr.elim
    | finished => exact hr.elim
theorem wpL_gsz {α : Type} {Γ : Ctx} {n : Nat} (hR : Real Γ) (m : Sem α) {φ : α → Pos → Shared → Prop} {ε : Value → Pos → Shared → Prop} : ∀ {p : Pos} {s : Shared}, n ≤ s.gens.size → wpL M Γ m φ ε p s →
    wpL M Γ m (fun a q y => φ a q y ∧ n ≤ y.gens.size) (fun x q y => ε x q y) p s := by
  induction m with
  | pure a => exact fun j h => ⟨h, j⟩
  | raise x => exact fun j h => h
  | unsupported | finish | register | yield | fork | await => exact fun _ h => h.elim
  | load a part k ih => exact fun j ⟨o, ho, h⟩ => ⟨o, ho, ih _ j h⟩
  | update a part f k ih => exact fun {p s} j ⟨ha, h⟩ => ⟨ha, ih _ (s := { s with heap := s.heap.update a f }) j h⟩
  | choose src n k ih => exact fun {p s} j ⟨hn, h⟩ => ⟨hn, ih _ (s := { s with drawn := s.drawn.bump src }) j h⟩
  | call c hd g l k ih =>
    intro p s j ⟨r, z, w, h⟩
    obtain ⟨b0, f0⟩ := hR.enter c hd p
    exact ⟨r, z, w, ih _ (Nat.le_trans j (way_gsz (w b0 f0))) h⟩
  | newGen c k ih =>
    intro p s j h
    refine ih s.gens.size (s := { s with gens := s.gens.push (.fresh c) }) ?_ h
    show n ≤ (s.gens.push _).size
    rw [Array.size_push]; omega
  | genState g k ih => exact fun j ⟨x, hg, h⟩ => ⟨x, hg, ih _ j h⟩
  | resume g r l k ih =>
    intro p s j ⟨res, z, w, h⟩
    exact ⟨res, z, w, ih _ (Nat.le_trans j (wakes_gsz hR w)) h⟩
  | rule tag k ih => exact fun j h => ih _ j h
  | «at» q k ih => exact fun j h => ih _ j h
  | loadIfAlive a k ih => exact fun j h => ih _ j h
  | point l k ih => exact fun j h => ih _ j h
  | ask k ih => exact fun j h => ih _ j h
  | handled own k ih => exact fun j h => ih _ j h
  | stack k ih => exact fun j h => ih _ j h
  | thread k ih => exact fun j h => ih _ j h
  | alloc o k ih => exact fun {p s} j h => ih _ (s := { s with heap := s.heap.push o }) j h
  | fresh k ih => exact fun {p s} j h => ih _ (s := { s with toks := s.toks + 1 }) j h
  | os q l k ih => exact fun {p s} j h => ih _ (s := { s with os := (Os.step s.os q).1 }) j h
/-! ### the sleepers of a state -/
theorem scrub_psnd (s : Shared) : Psnd (sleepers s) (scrub s) := by
  refine ⟨fun i x h => ?_, fun i x h => ?_, fun i k l c p fs cl h hg => ?_⟩
  · unfold sleepers at h
    rw [Option.filter_eq_some_iff] at h
    show (s.gens.map psn)[i]? = _
    rw [Array.getElem?_map, h.1]; rfl
  · unfold sleepers at h
    rw [Option.filter_eq_some_iff] at h
    exact h.2
  · have hg' : (s.gens.map psn)[i]? = some (.suspended k l c p fs cl) := hg
    rw [Array.getElem?_map] at hg'
    cases e : s.gens[i]? with
    | none => rw [e] at hg'; cases hg'
    | some x =>
      rw [e] at hg'
      unfold sleepers at h
      rw [e] at h
      cases x <;> simp_all [psn, IsSusp, Option.filter]
theorem rst_scrub (s : Shared) : rst (sleepers s) (scrub s) = s := by
  refine shared_ext rfl (fun i => ?_) rfl rfl rfl
  rw [rst_at]
  show ((s.gens.map psn)[i]?).map _ = s.gens[i]?
  rw [Array.getElem?_map]
  cases e : s.gens[i]? with
  | none => rfl
  | some x =>
    simp only [Option.map_some, sleepers, e]
    cases x <;> simp [Option.filter, IsSusp, psn]
/-- behind a run that may wake no sleeper: the sleepers of s stand, what is new is bare -/
structure GKept (s y : Shared) : Prop where
  sleep : ∀ (i : Nat) (x : GenState), s.gens[i]? = some x → IsSusp x = true → y.gens[i]? = some x
  bare : ∀ (i : Nat) (x : GenState), y.gens[i]? = some x → x.bare = true ∨ s.gens[i]? = some x
  size : s.gens.size ≤ y.gens.size
theorem GKept.refl (s : Shared) : GKept s s := ⟨fun _ _ h _ => h, fun _ _ h => .inr h, Nat.le_refl _⟩
theorem GKept.trans {s y z : Shared} (a : GKept s y) (b : GKept y z) : GKept s z :=
  ⟨fun i x h q => b.sleep i x (a.sleep i x h q) q, fun i x h => (b.bare i x h).elim .inl (a.bare i x), Nat.le_trans a.size b.size⟩
theorem GKept.same {s y : Shared} (h : y.gens = s.gens) : GKept s y := ⟨fun i x e _ => by rw [h]; exact e, fun i x e => .inr (by rw [← h]; exact e), by rw [h]; exact Nat.le_refl _⟩
theorem kept_rst {s z : Shared} (j : Psnd (sleepers s) z) (hb : AllBare z.gens) (hz : s.gens.size ≤ z.gens.size) : GKept s (rst (sleepers s) z) := by
  refine ⟨fun i x h q => ?_, fun i x h => ?_, by rw [rst_size]; exact hz⟩
  · have hX : sleepers s i = some x := by unfold sleepers; rw [h]; simp [Option.filter, q]
    rw [rst_at, j.at_ i x hX, Option.map_some, hX]; rfl
  · rw [rst_at] at h
    cases e : z.gens[i]? with
    | none => rw [e] at h; cases h
    | some y =>
      rw [e] at h
      cases hX : sleepers s i with
      | none =>
        rw [hX] at h
        cases h
        exact .inl (hb _ (Array.mem_of_getElem? e))
      | some u =>
        rw [hX] at h
        cases h
        unfold sleepers at hX
        rw [Option.filter_eq_some_iff] at hX
        exact .inr hX.1
variable {A : Around} {α : Type} {s : Shared}
theorem WL.sized {m : Sem α} {Q : α → Shared → Prop} {E : Value → Shared → Prop} {n : Nat} (hn : n ≤ s.gens.size) (h : WL M A m Q E s) : WL M A m (fun a y => Q a y ∧ n ≤ y.gens.size) E s := fun Γ p hR hΓ =>
  wpL_gsz hR m hn (h Γ p hR hΓ)
/-- a tree over sleepers: by a run in which they cannot be woken -/
theorem WL.asleep {m : Sem α} {Q : α → Shared → Prop} {E : Value → Shared → Prop} (h : WL M A m Q E (scrub s)) :
    WL M A m (fun a y => ∃ z, Q a z ∧ Psnd (sleepers s) z ∧ s.gens.size ≤ z.gens.size ∧ y = rst (sleepers s) z) (fun x y => ∃ z, E x z) s := fun Γ p hR hΓ => by
  have h' : WL M A m (fun a y => Q a y ∧ s.gens.size ≤ y.gens.size) E (scrub s) := WL.sized (by simp [scrub]) h
  have q := wpL_rst hR m (scrub_psnd s) (h' Γ p hR hΓ)
  rw [rst_scrub] at q
  exact wpL_mono Γ m (fun a _ y ⟨z, ⟨a1, a2⟩, a3, a4⟩ => ⟨z, a1, a3, a2, a4⟩) (fun x _ y ⟨z, a, _⟩ => ⟨z, a⟩) p s q
end
end TF
/-! ## TfSeg -/
/-! segments of a generator's run; waking; next -/
namespace TF
open PySem PySem.W PyProof.Rows
section
variable {M : Model} {A : Around} {Φ : End → Shared → Prop} {c : Code} {fs : List Frame} {s : Shared}
def SgL (M : Model) (A : Around) (Φ : End → Shared → Prop) (c : Code) (t : Sem PySem.Fin) (fs : List Frame) (s : Shared) : Prop :=
  ∀ Γ p, Real Γ → Γ.code = c → Γ.Woken A → Gets M Γ p t fs s Φ
theorem SgL.mono {Ψ : End → Shared → Prop} {t : Sem PySem.Fin} (h : SgL M A Φ c t fs s) (i : ∀ e z, Φ e z → Ψ e z) : SgL M A Ψ c t fs s := fun Γ p hR hc hb => (h Γ p hR hc hb).mono i
theorem sg_wrap {α : Type} {m : Sem α} {K : α → Sem PySem.Fin} {J : Value → Sem PySem.Fin} {gd : Bool → Bool} {lv : List Value → List Value}
    (h : WL M (A.over c fs) m (fun a y => SgL M A Φ c (K a) fs y) (fun x y => SgL M A Φ c (J x) fs y) s) : SgL M A Φ c (m.wrap K J gd lv) fs s := by
  rintro Γ p hR rfl hΓ
  exact gets_wrap K J gd lv m (h (Γ.over fs) p (hR.over fs) (hΓ.over fs)) (fun a q y i => i Γ q hR rfl hΓ) fun x q y i => i Γ q hR rfl hΓ
theorem sg_bind {α : Type} {m : Sem α} {K : α → Sem PySem.Fin} (h : WL M (A.over c fs) m (fun a y => SgL M A Φ c (K a) fs y) (fun x y => SgL M A Φ c (.raise x) fs y) s) : SgL M A Φ c (m >>= K) fs s := by
  rw [Sem.bind_eq_wrap']; exact sg_wrap h
theorem sg_at {q : Pos} {k : Unit → Sem PySem.Fin} (h : SgL M A Φ c (k ()) fs s) : SgL M A Φ c (.at q k) fs s := by
  rintro Γ p hR rfl hΓ
  exact .step (fun _ _ => step_at ..) (h Γ q hR rfl hΓ)
theorem sg_point {l : List Value} {k : Unit → Sem PySem.Fin} (h : SgL M A Φ c (k ()) fs s) : SgL M A Φ c (.point l k) fs s := by
  rintro Γ p hR rfl hΓ
  exact .step (fun _ _ => step_point ..) (h Γ p hR rfl hΓ)
theorem sg_rule {tag : String} {k : Unit → Sem PySem.Fin} (h : SgL M A Φ c (k ()) fs s) : SgL M A Φ c (.rule tag k) fs s := by
  rintro Γ p hR rfl hΓ
  exact .step (fun _ _ => step_rule ..) (h Γ p hR rfl hΓ)
theorem sg_call {c' : Code} {h : Option Value} {g : Bool} {l : List Value} {k : Result → Sem PySem.Fin} (hc : ∀ p, SgL M A Φ c' (M.den c') (.ret k h g l c p [] :: fs) s) : SgL M A Φ c (.call c' h g l k) fs s := by
  rintro Γ p hR rfl hΓ
  obtain ⟨e, z, w, q⟩ := hc p (Γ.goto c') p (hR.goto c') rfl (hΓ.goto c')
  exact ⟨e, z, fun base hb => .calm (pre1 := .ret k h g l Γ.code p [] :: fs) (step_call ..) (w base (hb.goto c')), q⟩
theorem sg_leaf {k : Result → Sem PySem.Fin} {h : Option Value} {g : Bool} {l : List Value} {c1 : Code} {p1 : Pos} {kp : List Value} (r : Result) (hk : SgL M A Φ c1 (k r) fs s) : SgL M A Φ c (leafOf r) (.ret k h g l c1 p1 kp :: fs) s := by
  rintro Γ p hR rfl hΓ
  obtain ⟨e, z, w, q⟩ := hk (Γ.goto c1) p1 (hR.goto c1) rfl (hΓ.goto c1)
  exact ⟨e, z, fun base hb => .calm (pre1 := fs) (step_leaf_ret ..) (w base (hb.goto c1)), q⟩
theorem sg_again {c' : Code} (hq : c'.quiet = true) (hc : SgL M A Φ c' (M.den c') fs s) : SgL M A Φ c (.pure (.again c')) fs s := by
  rintro Γ p hR rfl hΓ
  obtain ⟨e, z, w, q⟩ := hc (Γ.goto c') p (hR.goto c') rfl (hΓ.goto c')
  exact ⟨e, z, fun base hb => .calm (pre1 := fs) (step_again _ _ _ _ _ _ hq) (w base (hb.goto c')), q⟩
theorem sg_end (r : Result) (h : Φ (.ret r) s) : SgL M A Φ c (leafOf r) [] s := by
  rintro Γ p hR rfl hΓ
  exact ⟨.ret r, s, fun _ _ => .out (show Exits (.ret r) (leafOf r) Γ.code p [] from ⟨rfl, rfl⟩), h⟩
theorem sg_yield {v : Value} {g : Bool} {l : List Value} {k : Resume → Sem PySem.Fin} (hfs : splitAtGen fs = none) (h : ∀ p, Φ (.susp v g l k c p fs) s) : SgL M A Φ c (.yield v g l k) fs s := by
  rintro Γ p hR rfl hΓ
  exact ⟨.susp v g l k Γ.code p fs, s, fun _ _ => .out (show Exits (.susp v g l k Γ.code p fs) (.yield v g l k) Γ.code p fs from ⟨rfl, rfl, rfl, rfl, hfs⟩), h p⟩
/-- the run of a generator from its state -/
def WakesTo (M : Model) (A : Around) (gs : GenState) (s : Shared) (Φ : End → Shared → Prop) : Prop :=
  match gs with
  | .fresh c => SgL M A Φ c (M.den c) [] s
  | .suspended k _ c _ fs _ => SgL M A Φ c (k (.send .none)) fs s
  | _ => False
theorem WL.resume {α : Type} {g : Nat} {gs : GenState} {l : List Value} {k : GenResult → Sem α} {Q : α → Shared → Prop} {E : Value → Shared → Prop} (hg : s.gens[g]? = some gs) (h : WakesTo M A gs (s.setGen g .running) Φ)
    (hΦ : ∀ e y, Φ e y → g < y.gens.size → OkEnd e y ∧ WL M A (k e.result) Q E (y.setGen g e.genState)) : WL M A (.resume g (.send .none) l k) Q E s := by
  intro Γ p hR hΓ
  have hB : ∀ c, (Γ.wake c p).Woken A := fun c => hΓ.wake c p
  have hlt : g < (s.setGen g .running).gens.size := by
    have := (Array.getElem?_eq_some_iff.mp hg).1
    simpa [Shared.setGen] using this
  have fin : ∀ {e : End} {y : Shared} {t : Sem PySem.Fin} {c : Code} {q : Pos} {fs : List Frame}, (∀ base, (Γ.wake c p).Fits base → Way M base (s.setGen g .running) t c q fs y e) → Φ e y → OkEnd e y ∧ WL M A (k e.result) Q E (y.setGen g e.genState) := fun {e y t c q fs} w i => by
    obtain ⟨b, f⟩ := hR.wake c p
    exact hΦ e y i (Nat.lt_of_lt_of_le hlt (way_gsz (w b f)))
  cases gs with
  | fresh c =>
    obtain ⟨e, y, w, i⟩ := h (Γ.wake c p) p (hR.wake c p) rfl (hB c)
    obtain ⟨ok, j⟩ := fin w i
    exact ⟨e.result, _, .inr ⟨.fresh c, e, y, hg, ok, rfl, rfl, rfl, w⟩, j Γ p hR hΓ⟩
  | suspended k0 l0 c0 p0 fs0 cl =>
    obtain ⟨e, y, w, i⟩ := h (Γ.wake c0 p) p0 (hR.wake c0 p) rfl (hB c0)
    obtain ⟨ok, j⟩ := fin w i
    exact ⟨e.result, _, .inr ⟨_, e, y, hg, ok, rfl, rfl, w⟩, j Γ p hR hΓ⟩
  | running => exact h.elim
  | finished => exact h.elim
end
/-! ### a generator's object -/
structure GenObj (o : Obj) (g : Nat) (n : Int) : Prop where
  cls : o.cls = .type "generator"
  data : ∃ nm qn, o.data = .fields #[.int g 0, nm, qn]
  slots : (o.slots = #[] ∧ n = 0) ∨ o.slots = #[some (.int n 0)]
theorem GenObj.number {o : Obj} {g : Nat} {n : Int} (h : GenObj o g n) : o.genNumber? = some g := by
  obtain ⟨nm, qn, hd⟩ := h.data
  simp [Obj.genNumber?, h.cls, hd]
section
variable {P : Program} {w : World} {A : Around} {s : Shared} {a : Addr} {g : Nat} {o : Obj} {E : Value → Shared → Prop}
theorem genNumber_at {M : Model} {n : Int} {Q : Nat → Shared → Prop} (ho : s.heap.get? a = some o) (hG : GenObj o g n) (hn : ¬ n > 0) (h : Q g s) : wpAny M A (Builtin.Generator.genNumber (.ref a)) Q E s := by
  obtain ⟨hc, ⟨nm, qn, hd⟩, hs⟩ := hG
  unfold Builtin.Generator.genNumber
  refine wpAny_bind (wpAny_load ho ?_)
  have fin : wpAny M A (Pure.pure ((g : Int).toNat) : Sem Nat) Q E s := by rw [Int.toNat_natCast]; exact wpAny_pure h
  rcases hs with ⟨hs, _⟩ | hs
  · rw [hs, hd]; exact fin
  · rw [hs, hd]
    show wpAny M A (if n > 0 then _ else _) Q E s
    rw [if_neg hn]
    exact fin
theorem sleptOver_at {M : Model} {n : Int} {more : Bool} {Q : Unit → Shared → Prop} (ho : s.heap.get? a = some o) (hG : GenObj o g n)
    (h : ∀ h', h'.get? a = some { o with slots := #[some (.int (if more then n + 1 else n - 1) 0)] } → (∀ b u, b ≠ a → s.heap.get? b = some u → h'.get? b = some u) → h'.objs.size = s.heap.objs.size → Q () { s with heap := h' }) :
    wpAny M A (Builtin.Generator.sleptOver (.ref a) more) Q E s := by
  obtain ⟨hc, hd, hs⟩ := hG
  unfold Builtin.Generator.sleptOver
  refine wpAny_bind (wpAny_load ho ?_)
  have hne : ¬ ((o.cls != Value.type "generator") = true) := by rw [hc]; decide
  rw [if_neg hne]
  have upd : ∀ v : Option Value, (o.slots ++ Array.replicate (0 + 1 - o.slots.size) none).setIfInBounds 0 v = #[v] := fun v => by
    rcases hs with ⟨hs, _⟩ | hs <;> rw [hs] <;> simp
  have key : ∀ v : Option Value, (∀ h', h'.get? a = some { o with slots := #[v] } → (∀ b u, b ≠ a → s.heap.get? b = some u → h'.get? b = some u) → h'.objs.size = s.heap.objs.size → Q () { s with heap := h' }) → wpAny M A (setSlotAt a 0 v) Q E s := fun v hv => by
    unfold setSlotAt
    rw [if_neg (by rw [sizeLine_eq]; decide)]
    refine wpAny_updatePart ho (hv _ ?_ (fun b u hb e => (Heap.get?_update_other _ _ (Ne.symm hb)).trans e) ?_)
    · have e1 := Heap.get?_update_self (fun o : Obj => { o with slots := (o.slots ++ Array.replicate (0 + 1 - o.slots.size) none).setIfInBounds 0 v }) ho (by
        obtain ⟨nm, qn, hd⟩ := hd
        exact Obj.isFreed_of_fields (vs := #[.int g 0, nm, qn]) hd)
      rw [e1]
      simp only [upd v]
    · simp [Heap.update]
  rcases hs with ⟨hs, hn⟩ | hs
  · subst hn
    rw [hs] at *
    exact key _ h
  · rw [hs]
    exact key _ h
end
end TF
/-! ## TfNext -/
/-! next of a generator -/
namespace TF
open PySem PySem.W PyProof.Rows L2
section
variable {P : Program} {w : World} {A : Around} {s : Shared} {a : Addr} {g : Nat} {o : Obj} {E : Value → Shared → Prop} {Φ : End → Shared → Prop}
theorem CL.builtin {id : String} {args : Args} {b : Builtin} {R : Result → Shared → Prop} (hq : plainId id = true) (hb : entryFor table id = some b)
    (h : WL (model P w) A.in1 (b args) (fun fin y => match fin with | .done f => R (.ok f) y | .again d => d.quiet = true ∧ CL (model P w) A d R y) (fun x y => R (.error x) y) s) : CL (model P w) A (.builtin id args) R s := by
  refine CL.tree ?_
  rw [Around.under_plainId hq]
  show WL _ _ (match entryFor table id with | some b => b args | none => unsupported ((withoutEnding? id "#data").getD id)) _ _ s
  rw [hb]; exact h
theorem CL.callBuiltin {id : String} {args : Args} {b : Builtin} {R : Result → Shared → Prop} (hq : plainId id = true) (hb : entryFor table id = some b)
    (h : WL (model P w) A.in1 (checkBuiltinCall id args) (fun _ y => WL (model P w) A.in1 (b args) (fun fin z => match fin with | .done f => R (.ok f) z | .again d => d.quiet = true ∧ CL (model P w) A d R z) (fun x z => R (.error x) z) y) (fun x y => R (.error x) y) s) :
    CL (model P w) A (.call (.builtin id) args) R s := by
  refine CL.tree ?_
  show WL _ A.in1 (checkBuiltinCall id args >>= fun _ => again (.builtin id args)) _ _ s
  exact WL.bind (h.thn fun _ y q => WL.pure ⟨plainId_quiet hq args, CL.builtin hq hb q⟩)
theorem raise_stop {α : Type} {M : Model} (hh : A.handled = none) (h : ∀ x h', StopX x h' → (∀ b u, s.heap.get? b = some u → h'.get? b = some u) → E x { s with heap := h' }) :
    wpAny M A (newExc (.type "StopIteration") []) (fun x y => ∀ Q : α → Shared → Prop, wpAny M A (raiseNew x : Sem α) Q E y) E s := by
  simp only [newExc, newTuple]
  refine wpAny_bind (wpAny_newObj_type ?_ (by size_fits))
  refine wpAny_bind (m := firstArgMember _ _) (wpAny_of_eq (a := Value.none) (by first | rfl | (simp only [firstArgMember]; rfl)) ?_)
  refine wpAny_newObj_type ?_ (by size_fits)
  intro Q
  simp only [raiseNew]
  refine wpAny_bind (wpAny_handled ?_)
  rw [hh]
  refine wpAny_bind (wpAny_pure (wpAny_throw ?_))
  refine h _ _ ⟨_, _, _, rfl, Heap.get?_push_size _ rfl, rfl, rfl, ?_⟩ fun b u e => Heap.get?_push_of_some _ (Heap.get?_push_of_some _ e)
  first
    | rfl
    | (rw [Array.getElem?_append_left (by decide)]; rfl)
    | kernel_rfl
theorem wake_L {n : Int} {gs : GenState} {Q : PySem.Fin → Shared → Prop} (hh : A.handled = none) (hl : s.heap.NoLimit) (hroom : A.depth < recursionLimit) (ho : s.heap.get? a = some o) (hG : GenObj o g n) (hn : ¬ n > 0) (hgs : s.gens[g]? = some gs)
    (hw : WakesTo (model P w) A gs (s.setGen g .running) Φ)
    (hret : ∀ r y, Φ (.ret r) y → (r = .ok (.ret .none) ∨ r = .ok .next) ∧ ∀ x h', StopX x h' → (∀ b u, y.heap.get? b = some u → h'.get? b = some u) → E x { y.setGen g .finished with heap := h' })
    (hsus : ∀ v gd l k c p fs y, Φ (.susp v gd l k c p fs) y → g < y.gens.size → OkEnd (.susp v gd l k c p fs) y ∧ Q (.done (.ret v)) (y.setGen g (End.susp v gd l k c p fs).genState)) :
    WL (model P w) A (Builtin.Generator.genWake (.ref a) (.send .none)) Q E s := by
  unfold Builtin.Generator.genWake
  refine WL.bind (WL.of (wpAny_holding (genNumber_at ho hG hn ?_)))
  refine WL.bind (WL.of (wpAny_genState hgs ?_))
  have go : WL (model P w) A (roomToWake >>= fun _ => (.resume g (.send .none) [] Sem.pure : Sem GenResult) >>= fun x => match x with
      | .yielded v => ret v
      | .returned v => do
        if v == .none then raiseNew (← newExc (.type "StopIteration") [])
        rule "generator.return-value"; throw (← newExc (.type "StopIteration") [v])
      | .raised e => do
        Builtin.Generator.genLeft (.ref a) e
      | .running => do rule "generator.already-executing"; raiseError "ValueError" "generator already executing"
      | .justStarted => do rule "generator.send-to-fresh"; raiseError "TypeError" "can't send non-None value to a just-started generator"
      | .finished => do raiseNew (← newExc (.type "StopIteration") [])) Q E s := by
    refine WL.bind (WL.of (wpAny_roomToWake hl hroom ?_))
    refine WL.bind ?_
    refine WL.resume hgs hw fun e y hΦ hlt => ?_
    cases e with
    | ret r =>
      obtain ⟨hr, hx⟩ := hret r y hΦ
      refine ⟨.inl rfl, ?_⟩
      have hres : (End.ret r).result = .returned .none := by
        rcases hr with rfl | rfl <;> rfl
      rw [hres]
      refine WL.pure (WL.of ?_)
      exact wpAny_bind (wpAny_mono (raise_stop hh hx) (fun x z i => wpAny_bind (i _)) fun _ _ i => i)
    | susp v gd l k c p fs =>
      obtain ⟨ok, q⟩ := hsus v gd l k c p fs y hΦ hlt
      exact ⟨ok, WL.pure (WL.pure q)⟩
  cases gs with
  | fresh c => exact go
  | suspended k l c p fs cl => exact go
  | running => exact hw.elim
  | finished => exact hw.elim
theorem GenObj.typeIs {n : Int} (ho : s.heap.get? a = some o) (hG : GenObj o g n) : s.TypeIs (.ref a) "generator" := ⟨o, ho, hG.cls⟩
/-- it.__next__() of a generator -/
theorem special_next_L {n : Int} {gs : GenState} {Q : Option Value → Shared → Prop} (hh : A.handled = none) (hl : s.heap.NoLimit) (hroom : A.depth < recursionLimit) (ho : s.heap.get? a = some o) (hG : GenObj o g n) (hn : ¬ n > 0) (hgs : s.gens[g]? = some gs)
    (hw : WakesTo (model P w) A.in1 gs (s.setGen g .running) Φ)
    (hret : ∀ r y, Φ (.ret r) y → (r = .ok (.ret .none) ∨ r = .ok .next) ∧ ∀ x h', StopX x h' → (∀ b u, y.heap.get? b = some u → h'.get? b = some u) → E x { y.setGen g .finished with heap := h' })
    (hsus : ∀ v gd l k c p fs y, Φ (.susp v gd l k c p fs) y → g < y.gens.size → OkEnd (.susp v gd l k c p fs) y ∧ Q (some v) (y.setGen g (End.susp v gd l k c p fs).genState)) :
    WL (model P w) A (callSpecial? (.ref a) "__next__") Q E s := by
  have hT : s.TypeIs (.ref a) "generator" := GenObj.typeIs ho hG
  have S := slot_gen_next
  simp only [callSpecial?]
  refine WL.bind (WL.of (wpAny_specialOf hT S.lookup ?_))
  simp only [S.bind]
  refine WL.holding (WL.bind (WL.pure (WL.bind ?_)))
  refine WL.call (CL.callBuiltin S.plain entry_gen_next (WL.of (S.check _ _ _ _ _ _ _ _ hT (args_gen_next _) ?_)))
  have q := wake_L (A := A.in1) (Q := fun fin y => ∃ v, fin = .done (.ret v) ∧ Q (some v) y) hh hl hroom ho hG hn hgs hw hret fun v gd l k c p fs y i j => let ⟨ok, q⟩ := hsus v gd l k c p fs y i j; ⟨ok, v, rfl, q⟩
  refine WL.mono (show WL (model P w) A.in1 (Builtin.Generator.genWake (.ref a) (.send .none)) _ _ s from q) (fun fin y i => ?_) fun x y i => i
  obtain ⟨v, rfl, i⟩ := i
  exact WL.pure i
theorem isStop {M : Model} {Q : Bool → Shared → Prop} {x : Value} (h : StopX x s.heap) (q : Q true s) : wpAny M A (isInstance x (.type "StopIteration")) Q E s := by
  obtain ⟨b, u, vs, rfl, hb, hc, _⟩ := h
  exact wpAny_isInstance (T := "StopIteration") (b := true) ⟨u, hb, hc⟩ isSubtype_stop q
/-- next(it) as a for loop asks it -/
theorem pyNext_L {n : Int} {gs : GenState} {Q : Option Value → Shared → Prop} (hh : A.handled = none) (hl : s.heap.NoLimit) (hroom : A.depth < recursionLimit) (ho : s.heap.get? a = some o) (hG : GenObj o g n) (hn : ¬ n > 0) (hgs : s.gens[g]? = some gs)
    (hw : WakesTo (model P w) A.in1 gs (s.setGen g .running) Φ)
    (hret : ∀ r y, Φ (.ret r) y → (r = .ok (.ret .none) ∨ r = .ok .next) ∧ ∀ h', (∀ b u, y.heap.get? b = some u → h'.get? b = some u) → Q none { y.setGen g .finished with heap := h' })
    (hsus : ∀ v gd l k c p fs y, Φ (.susp v gd l k c p fs) y → g < y.gens.size → OkEnd (.susp v gd l k c p fs) y ∧ Q (some v) (y.setGen g (End.susp v gd l k c p fs).genState)) :
    WL (model P w) A (pyNext (.ref a)) Q E s := by
  unfold pyNext
  refine WL.bind (WL.attempt (special_next_L hh hl hroom ho hG hn hgs hw (fun r y i => ?_) fun v gd l k c p fs y i j => ?_))
  · obtain ⟨hr, q⟩ := hret r y i
    refine ⟨hr, fun x h' hS hk => ?_⟩
    exact WL.of (wpAny_bind (isStop hS (wpAny_pure (q h' hk))))
  · obtain ⟨ok, q⟩ := hsus v gd l k c p fs y i j
    exact ⟨ok, WL.pure q⟩
end
end TF
/-! ## TfL -/
/-! the judgements where generators may sleep -/
namespace TF
open PySem PySem.Spec PySem.W PyProof.Rows L2
abbrev NoX : Value → Shared → Prop := fun _ _ => False
def nog (s : Shared) : Shared := { s with gens := #[] }
abbrev InvL (X : Cx) (pins : List (Addr × Obj)) (σ : L2.St) (H : Hp) (s : Shared) : Prop := Inv X pins σ H (nog s)
theorem Inv.gens {X : Cx} {pins : List (Addr × Obj)} {σ : L2.St} {H : Hp} {s : Shared} (I : Inv X pins σ H s) {g : Array GenState} (hg : AllBare g) : Inv X pins σ H { s with gens := g } :=
  ⟨I.ok, I.os, hg, I.base, I.loc, I.cell, I.free, I.freeC, I.pin, I.hok, I.len⟩
theorem InvL.scrub {X : Cx} {pins : List (Addr × Obj)} {σ : L2.St} {H : Hp} {s : Shared} (I : InvL X pins σ H s) : Inv X pins σ H (TF.scrub s) := Inv.gens I (scrub_bare s)
theorem InvL.of {X : Cx} {pins : List (Addr × Obj)} {σ : L2.St} {H : Hp} {s : Shared} (I : Inv X pins σ H s) : InvL X pins σ H s := Inv.gens I AllBare.empty
theorem InvL.ofR {X : Cx} {pins : List (Addr × Obj)} {σ : L2.St} {H : Hp} {s : Shared} {Y : Nat → Option GenState} (I : Inv X pins σ H s) : InvL X pins σ H (rst Y s) := InvL.of (s := s) I
section
variable {M : Model} {A : Around} {α : Type} {s : Shared}
theorem lift {m : Sem α} {Q R : α → Shared → Prop} {E : Value → Shared → Prop} (h : wpAny M A m Q E (scrub s)) (hE : ∀ x y, E x y → False) (hQ : ∀ a z, Q a z → AllBare z.gens ∧ ∀ y, y = rst (sleepers s) z → GKept s y → R a y) : WL M A m R NoX s := by
  refine (WL.asleep (WL.of h)).mono (fun a y ⟨z, q, j, hz, e⟩ => ?_) fun x y ⟨z, q⟩ => hE x z q
  obtain ⟨hb, k⟩ := hQ a z q
  exact k y e (by rw [e]; exact kept_rst j hb hz)
end
def EPL (X : Cx) (pins : List (Addr × Obj)) (σ : L2.St) (Q : VK) (s : Shared) (u : Value) (y : Shared) : Prop := ∃ v H', InvL X pins σ H' y ∧ RelV v u ∧ Q v H' ∧ GKept s y
def TPL (X : Cx) (pins : List (Addr × Obj)) (σ : L2.St) (Q : Bool → Hp → Prop) (s : Shared) (b : Bool) (y : Shared) : Prop := ∃ H', InvL X pins σ H' y ∧ Q b H' ∧ GKept s y
def APL (X : Cx) (pins : List (Addr × Obj)) (σ : L2.St) (Q : List V → Hp → Prop) (s : Shared) (us : List Value) (y : Shared) : Prop := ∃ vs H', InvL X pins σ H' y ∧ Vals vs us ∧ Q vs H' ∧ GKept s y
def SPL (X : Cx) (pins : List (Addr × Obj)) (D : Ends) (f : Flow) (y : Shared) : Prop :=
  match f with
  | .next => ∃ σ' H', InvL X pins σ' H' y ∧ D.nx σ' H'
  | .brk => ∃ σ' H', InvL X pins σ' H' y ∧ D.bk σ' H'
  | .cont => ∃ σ' H', InvL X pins σ' H' y ∧ D.ct σ' H'
  | .ret u => ∃ v σ' H', InvL X pins σ' H' y ∧ RelV v u ∧ D.rt v H'
theorem SP.bare {X : Cx} {pins : List (Addr × Obj)} {D : Ends} {f : Flow} {z : Shared} (h : SP X pins D f z) : AllBare z.gens := by
  cases f with
  | next => obtain ⟨σ, H, I, q⟩ := h; exact I.bare
  | brk => obtain ⟨σ, H, I, q⟩ := h; exact I.bare
  | cont => obtain ⟨σ, H, I, q⟩ := h; exact I.bare
  | ret u => obtain ⟨v, σ, H, I, r, q⟩ := h; exact I.bare
theorem SPL.of {X : Cx} {pins : List (Addr × Obj)} {D : Ends} {f : Flow} {z y : Shared} {Y : Nat → Option GenState} (h : SP X pins D f z) (e : y = rst Y z) : SPL X pins D f y := by
  subst e
  cases f with
  | next => obtain ⟨σ, H, I, q⟩ := h; exact ⟨σ, H, InvL.ofR I, q⟩
  | brk => obtain ⟨σ, H, I, q⟩ := h; exact ⟨σ, H, InvL.ofR I, q⟩
  | cont => obtain ⟨σ, H, I, q⟩ := h; exact ⟨σ, H, InvL.ofR I, q⟩
  | ret u => obtain ⟨v, σ, H, I, r, q⟩ := h; exact ⟨v, σ, H, InvL.ofR I, r, q⟩
structure PEL (X : Cx) (e : Expr) (t : TE) : Prop where
  run : ∀ (pins : List (Addr × Obj)) (s : Shared) (σ : L2.St) (H : Hp) (Q : VK), InvL X pins σ H s → t σ H Q → WL (model X.prog X.w) X.A (eval e X.env) (EPL X pins σ Q s) NoX s
structure PTL (X : Cx) (e : Expr) (t : TT) : Prop where
  run : ∀ (pins : List (Addr × Obj)) (s : Shared) (σ : L2.St) (H : Hp) (Q : Bool → Hp → Prop), InvL X pins σ H s → t σ H Q → WL (model X.prog X.w) X.A (isTrue e X.env (eval e X.env)) (TPL X pins σ Q s) NoX s
structure PSL (X : Cx) (st : Stmt) (t : TS) : Prop where
  run : ∀ (pins : List (Addr × Obj)) (s : Shared) (σ : L2.St) (H : Hp) (D : Ends), InvL X pins σ H s → t D σ H → WL (model X.prog X.w) X.A (exec st X.env) (fun f y => SPL X pins D f y ∧ GKept s y) NoX s
structure PSsL (X : Cx) (st : List Stmt) (t : TS) : Prop where
  run : ∀ (pins : List (Addr × Obj)) (s : Shared) (σ : L2.St) (H : Hp) (D : Ends), InvL X pins σ H s → t D σ H → WL (model X.prog X.w) X.A (execs st X.env) (fun f y => SPL X pins D f y ∧ GKept s y) NoX s
/-- no exception leaves -/
def Calm (X : Cx) : Prop := ∀ x y, X.xe x y → False
section
variable {X : Cx} (hX : Calm X)
include hX
theorem PEL.of {e : Expr} {t : TE} (h : PE X e t) : PEL X e t := ⟨fun pins s σ H Q I ht =>
  lift (h.run pins (scrub s) σ H Q I.scrub ht) hX fun u z ⟨v, H', I', r, q⟩ => ⟨I'.bare, fun y e k => ⟨v, H', by subst e; exact InvL.ofR I', r, q, k⟩⟩⟩
theorem PTL.of {e : Expr} {t : TT} (h : PT X e t) : PTL X e t := ⟨fun pins s σ H Q I ht =>
  lift (h.run pins (scrub s) σ H Q I.scrub ht) hX fun u z ⟨H', I', q⟩ => ⟨I'.bare, fun y e k => ⟨H', by subst e; exact InvL.ofR I', q, k⟩⟩⟩
theorem PSL.of {st : Stmt} {t : TS} (h : PS X st t) : PSL X st t := ⟨fun pins s σ H D I ht =>
  lift (h.run pins (scrub s) σ H D I.scrub ht) hX fun f z q => ⟨SP.bare q, fun y e k => ⟨SPL.of q e, k⟩⟩⟩
theorem PSsL.of {st : List Stmt} {t : TS} (h : PSs X st t) : PSsL X st t := ⟨fun pins s σ H D I ht =>
  lift (h.run pins (scrub s) σ H D I.scrub ht) hX fun f z q => ⟨SP.bare q, fun y e k => ⟨SPL.of q e, k⟩⟩⟩
end
/-! ### blocks -/
section
variable {X : Cx} {st : Stmt} {rest : List Stmt} {t u : TS} {e : Expr} {te : TE} {pos : Pos} {M : Model} {A : Around} {env : Env} {s : Shared} {E : Value → Shared → Prop}
theorem wl_execs_nil {Q : Flow → Shared → Prop} (h : Q .next s) : WL M A (execs [] env) Q E s := WL.pure h
theorem wl_execs_cons {Q : Flow → Shared → Prop} (h : WL M A (exec st env) (fun f y => match f with | .next => WL M A (execs rest env) Q E y | f => Q f y) E s) : WL M A (execs (st :: rest) env) Q E s := by
  rw [execs_cons]
  refine WL.bind (h.thn fun f y q => ?_)
  cases f with
  | next => exact q
  | brk => exact WL.pure q
  | cont => exact WL.pure q
  | ret v => exact WL.pure q
theorem pssL_cons (a : PSL X st t) (b : PSsL X rest u) : PSsL X (st :: rest) (tSeq t u) := by
  refine ⟨fun pins s σ H D I h => ?_⟩
  refine wl_execs_cons ((a.run pins s σ H { D with nx := u D } I h).thn fun f y ⟨q, k⟩ => ?_)
  cases f with
  | next =>
    obtain ⟨σ', H', I', q⟩ := q
    exact (b.run pins y σ' H' D I' q).thn fun f z ⟨q, k2⟩ => ⟨q, k.trans k2⟩
  | ret v => exact ⟨q, k⟩
  | brk => exact ⟨q, k⟩
  | cont => exact ⟨q, k⟩
theorem pssL_one (a : PSL X st t) : PSsL X [st] t := by
  refine ⟨fun pins s σ H D I h => ?_⟩
  refine wl_execs_cons ((a.run pins s σ H D I h).thn fun f y q => ?_)
  cases f with
  | next => exact wl_execs_nil q
  | ret v => exact q
  | brk => exact q
  | cont => exact q
theorem psL_ret (he : PEL X e te) : PSL X (.Return (some e) pos) (tRet te) := by
  refine ⟨fun pins s σ H D I h => ?_⟩
  rw [exec_Return_some]
  exact WL.bind (WL.standAt (WL.bind ((he.run pins s σ H _ I h).thn fun v y ⟨x, H1, I1, r1, q1, k⟩ => WL.pure ⟨⟨x, σ, H1, I1, r1, q1⟩, k⟩)))
theorem psL_if {c : Expr} {a b : List Stmt} {tc : TT} (hc : PTL X c tc) (ha : PSsL X a t) (hb : PSsL X b u) : PSL X (.If c a b pos) (tIfS tc t u) := by
  refine ⟨fun pins s σ H D I h => ?_⟩
  rw [exec_If]
  refine WL.bind (WL.standAt (WL.bind ((hc.run pins s σ H _ I h).thn fun d y ⟨H1, I1, q1, k⟩ => ?_)))
  cases d with
  | true => exact (ha.run pins y σ H1 D I1 q1).thn fun f z ⟨q, k2⟩ => ⟨q, k.trans k2⟩
  | false => exact (hb.run pins y σ H1 D I1 q1).thn fun f z ⟨q, k2⟩ => ⟨q, k.trans k2⟩
/-- a name is stored -/
theorem storeL {pins : List (Addr × Obj)} {σ : L2.St} {H : Hp} {i : Nat} {x : Str} {v : V} {w : Value} (I : InvL X pins σ H s) (hN : X.N.Nodup) (hi : X.N[i]? = some x) (hx : Loc X.env.scope x) (r : RelV v w)
    (hf : X.fn x = true ∨ X.env.scope.names.lookup x = some .local := by first | exact .inl rfl | exact .inr rfl | assumption) :
    WL (model X.prog X.w) X.A (bindName X.env x w) (fun _ y => InvL X pins (σ.set i (some v)) H y ∧ GKept s y) NoX s :=
  lift (E := NoX) (Q := fun _ z => Inv X pins (σ.set i (some v)) H z) (wpAny_bindName (store_ok I.scrub hN hi hx r (fun y J => J) hf)) (fun _ _ q => q) fun _ z J => ⟨J.bare, fun y e k => ⟨by subst e; exact InvL.ofR J, k⟩⟩
theorem psL_set {i : Nat} {x : Str} {pos' : Pos} (hN : X.N.Nodup) (hi : X.N[i]? = some x) (hx : Loc X.env.scope x) (he : PEL X e te) (hs : swapsWith e (some (.Name x pos')) pos.line X.env = pure false := by rfl)
    (hf : X.fn x = true ∨ X.env.scope.names.lookup x = some .local := by first | exact .inl rfl | exact .inr rfl | assumption) : PSL X (.Assign [.Name x pos'] e pos) (tAsg te (gName i)) := by
  refine ⟨fun pins s σ H D I h => ?_⟩
  rw [exec_Assign_Name X.env x pos' e pos hs]
  refine WL.bind (WL.standAt (WL.bind ((he.run pins s σ H _ I h).thn fun v y ⟨z, H1, I1, r1, q1, k⟩ => ?_)))
  exact WL.bind (WL.standAt (WL.bind ((storeL I1 hN hi hx r1 hf).thn fun _ y2 ⟨I2, k2⟩ => WL.pure ⟨⟨_, H1, I2, q1⟩, k.trans k2⟩)))
/-- a target -/
theorem targetL (hX : Calm X) {tg : Expr} {g : TG} (hg : PG X tg g) {pins : List (Addr × Obj)} {σ : L2.St} {H : Hp} {v : V} {w : Value} {Q : L2.St → Hp → Prop} (I : InvL X pins σ H s) (r : RelV v w) (h : g v σ H Q) :
    WL (model X.prog X.w) X.A (assign tg X.env w) (fun _ y => ∃ σ' H', InvL X pins σ' H' y ∧ Q σ' H' ∧ GKept s y) NoX s :=
  lift (hg.run pins (scrub s) σ H v w Q I.scrub r h) hX fun _ z ⟨σ', H', J, q⟩ => ⟨J.bare, fun y e k => ⟨σ', H', by subst e; exact InvL.ofR J, q, k⟩⟩
/-! ### for -/
def PIEL (X : Cx) (pins : List (Addr × Obj)) (σ : L2.St) (tg : Expr) (R : It → Hp → Prop) (s : Shared) (itv : Value) (y : Shared) : Prop :=
  ∃ (it : Addr) (fp : List Addr) (tn : Nat → Heap → Prop) (J : It) (H' : Hp), itv = .ref it ∧ InvL X pins σ H' y ∧ L2.Turn X.prog X.w X.K tg J fp it tn ∧ tn 0 y.heap ∧ (∀ b ∈ fp, FpOk X pins H' b) ∧ R J H' ∧ GKept s y
structure PIL (X : Cx) (tg iter : Expr) (wi : TI) : Prop where
  run : ∀ (pins : List (Addr × Obj)) (s : Shared) (σ : L2.St) (H : Hp) (R : It → Hp → Prop), InvL X pins σ H s → wi σ H R →
    WL (model X.prog X.w) X.A (eval iter X.env) (fun v s1 => WL (model X.prog X.w) X.A (pyIter v) (PIEL X pins σ tg R s) NoX s1) NoX s
/-- the evaluated list is walked -/
theorem piL_list {tg l : Expr} {tl : TE} (hl : PEL X l tl) : PIL X tg l (iList X.K tl) := by
  refine ⟨fun pins s σ H R I h => ?_⟩
  refine (hl.run pins s σ H _ I h).thn fun v s1 ⟨x, H1, I1, r1, q1, k1⟩ => ?_
  obtain ⟨a, e, ⟨xs, hq⟩, q⟩ := q1
  subst e
  cases r1
  obtain ⟨its, rv, p, hz⟩ := I1.list hq
  refine WL.of (wpAny_pyIter_list (s := s1) p.isList ?_)
  refine ⟨s1.heap.objs.size, [s1.heap.objs.size], _, _, H1, rfl, I1.kept (t' := s1.toks) fun b o e => Heap.get?_push_of_some _ e, turn_list a _, ⟨_, Heap.get?_push_size _ rfl, rfl, rfl⟩, fun b hb => ?_, q, k1.trans (GKept.same rfl)⟩
  have e : b = s1.heap.objs.size := by simpa using hb
  subst e
  exact I1.fpOk (Nat.le_refl _) (I1.hok.fresh (Nat.le_refl _))
theorem WL.rst {Y : Nat → Option GenState} {z : Shared} {α : Type} {m : Sem α} {Q : α → Shared → Prop} (j : Psnd Y z) (h : WL M A m Q E z) :
    WL M A m (fun a y => ∃ z', Q a z' ∧ Psnd Y z' ∧ z.gens.size ≤ z'.gens.size ∧ y = TF.rst Y z') (fun x y => ∃ z', E x z') (TF.rst Y z) := fun Γ p hR hΓ => by
  have h' : WL M A m (fun a y => Q a y ∧ z.gens.size ≤ y.gens.size) E z := WL.sized (Nat.le_refl _) h
  exact wpL_mono Γ m (fun a _ y ⟨z, ⟨a1, a2⟩, a3, a4⟩ => ⟨z, a1, a3, a2, a4⟩) (fun x _ y ⟨z, a, _⟩ => ⟨z, a⟩) p _ (wpL_rst hR m j (h' Γ p hR hΓ))
theorem piL_of (hX : Calm X) {tg iter : Expr} {wi : TI} (h : PI X tg iter wi) : PIL X tg iter wi := by
  refine ⟨fun pins s σ H R I ht => ?_⟩
  refine (WL.asleep (WL.of (h.run pins (scrub s) σ H R I.scrub ht))).mono (fun v y ⟨z, q, j, hz, e⟩ => ?_) fun x y ⟨z, q⟩ => hX x z q
  subst e
  refine (WL.rst j (WL.of q)).mono (fun u y ⟨z', q, j', hz', e⟩ => ?_) fun x y ⟨z', q⟩ => hX x z' q
  subst e
  obtain ⟨it, fp, tn, J, H', e1, I', T, t0, f, r⟩ := q
  exact ⟨it, fp, tn, J, H', e1, InvL.ofR I', T, t0, f, r, kept_rst j' I'.bare (Nat.le_trans hz hz')⟩
theorem wl_For {target iter : Expr} {body : List Stmt} {Q : Flow → Shared → Prop}
    (h : WL M A (eval iter env) (fun x s1 => WL M A (pyIter x) (fun it s2 => CL M A (.forLoop target it body [] env) (fun r y => match r with | .ok f => Q f y | .error _ => False) s2) NoX s1) NoX s)
    (hs : ∀ x, foldedSetIterable iter env x = pure x := by intro _; rfl) : WL M A (exec (.For target iter body [] pos) env) Q NoX s := by
  rw [exec_For]
  refine WL.bind (WL.standAt (WL.bind (h.thn fun x s1 h1 => ?_)))
  rw [hs x]
  refine WL.bind (WL.pure (WL.bind (WL.standAt (WL.bind (WL.holding (h1.thn fun it s2 h2 => ?_))))))
  unfold runOwn
  refine WL.onRaise (WL.run (h2.mono fun r y q => ?_))
  cases r with
  | ok f => exact q
  | error e => exact q.elim
theorem wl_wrapped {α : Type} {m : Sem α} {k : Value → Sem Unit} {Q : α → Shared → Prop} (h : WL M A m Q NoX s) : WL M A (m.onRaise k) Q NoX s := WL.onRaise (h.mono (fun _ _ q => q) fun _ _ q => q.elim)
/-- the turns of a loop -/
theorem cl_forLoop {P : Program} {w : World} {target : Expr} {it : Value} {body : List Stmt} {R : Result → Shared → Prop} (I : Nat → Shared → Prop)
    (turn : ∀ n s, I n s → WL (model P w) A (pyNext it) (fun r s1 => match r with
      | none => R (.ok .next) s1
      | some v => WL (model P w) A (letOwnedTupleGo target it v) (fun _ s2 => WL (model P w) A (assign target env v) (fun _ s3 => WL (model P w) A (execs body env) (fun f s4 => match f with
          | .next | .cont => ∃ m, m < n ∧ I m s4
          | .brk => R (.ok .next) s4
          | .ret u => R (.ok (.ret u)) s4) NoX s3) NoX s2) NoX s1) NoX s)
    (n : Nat) (s : Shared) (h : I n s) : CL (model P w) A (.forLoop target it body [] env) R s := by
  induction n using Nat.strongRecOn generalizing s with
  | ind n ih =>
    refine CL.tree ?_
    rw [Around.under_of_weight rfl]
    show WL _ A ((forTurn target it body [] env).onRaise (fun x => do noteFrame x env; theTreesLotGoes x)) _ _ s
    refine WL.mono (wl_wrapped (Q := fun fin y => match fin with | .done f => R (.ok f) y | .again d => d.quiet = true ∧ CL (model P w) A d R y) ?_) (fun _ _ q => q) fun _ _ q => q.elim
    simp only [forTurn]
    refine WL.bind (WL.standAt (WL.bind (wl_wrapped ((turn n s h).thn fun r s1 h1 => ?_))))
    cases r with
    | none =>
      refine WL.pure ⟨rfl, CL.tree ?_⟩
      rw [Around.under_of_weight rfl]
      show WL _ A (do return PySem.Fin.done (← (execs [] env).onRaise (fun x => do noteFrame x env; theTreesLotGoes x))) _ _ s1
      exact WL.bind (WL.mono (wl_wrapped (Q := fun f y => f = .next ∧ y = s1) (wl_execs_nil ⟨rfl, rfl⟩)) (fun f y ⟨e1, e2⟩ => by subst e1; subst e2; exact WL.pure h1) fun _ _ q => q.elim)
    | some v =>
      refine WL.bind (h1.thn fun _ s2 h2 => WL.bind (h2.thn fun _ s3 h3 => WL.bind (h3.thn fun f s4 h4 => ?_)))
      cases f with
      | next => obtain ⟨m, hm, i⟩ := h4; exact WL.pure ⟨rfl, ih m hm s4 i⟩
      | cont => obtain ⟨m, hm, i⟩ := h4; exact WL.pure ⟨rfl, ih m hm s4 i⟩
      | brk => exact WL.pure h4
      | ret u => exact WL.pure h4
end
section
variable {X : Cx} {pos : Pos} {tg : Expr}
theorem psL_for (hX : Calm X) {iter : Expr} {body : List Stmt} {wi : TI} {g : TG} {tb : TS} (hc : X.calm = true) (hi : PIL X tg iter wi) (hg : PG X tg g) (hb : PSsL X body tb)
    (hs : ∀ x, foldedSetIterable iter X.env x = pure x := by intro _; rfl) : PSL X (.For tg iter body [] pos) (tFor wi g tb) := by
  refine ⟨fun pins s σ H D I h => ?_⟩
  refine wl_For ((hi.run pins s σ H _ I h).thn fun v s1 h1 => h1.thn fun itv s2 h2 => ?_) hs
  obtain ⟨it, fp, tn, J, H2, e, I2, T, st2, f2, ⟨W, ⟨m0, w0⟩, turn⟩, k2⟩ := h2
  subst e
  have stat : ∀ {H' : Hp}, (∀ b ∈ fp, H' b = none) → ∀ b ∈ fp, FpOk X pins H' b := fun hn b hb => ⟨hn b hb, (f2 b hb).2⟩
  refine cl_forLoop (fun n y => ∃ i σ' H', InvL X pins σ' H' y ∧ tn i y.heap ∧ (∀ b ∈ fp, H' b = none) ∧ W i n σ' H' ∧ GKept s y) ?_ m0 s2 ⟨0, σ, H2, I2, st2, fun b hb => (f2 b hb).1, w0, k2⟩
  rintro n s3 ⟨i, σ3, H3, I3, st3, fr3, w3, k3⟩
  rcases turn i n σ3 H3 w3 with ⟨stop, qn⟩ | ⟨go, N, hN, step⟩
  · refine lift (E := NoX) (T.done X rfl rfl rfl hc i pins (scrub s3) σ3 H3 NoX I3.scrub (stat fr3) st3 stop) (fun _ _ q => q) fun r z ⟨hr, I4⟩ => ⟨I4.bare, fun y e k => ?_⟩
    subst hr; subst e
    exact ⟨⟨σ3, H3, InvL.ofR I4, qn⟩, k3.trans k⟩
  · refine (WL.asleep (WL.of (T.item X rfl rfl rfl hc i pins (scrub s3) σ3 H3 NoX I3.scrub (stat fr3) st3 go))).mono (fun r y ⟨z, ⟨u, hr, h4⟩, j, hz, e⟩ => ?_) fun x y ⟨z, q⟩ => q
    subst hr; subst e
    refine (WL.rst j (WL.of h4)).mono (fun _ y ⟨z', ⟨x, H5, I5, r5, y5, st5, fr5⟩, j', hz', e⟩ => ?_) fun x y ⟨z', q⟩ => q
    subst e
    have k5 := kept_rst j' I5.bare (Nat.le_trans hz hz')
    have I5' := InvL.ofR (Y := sleepers s3) (I5.pinned (stat fr5) (T.obj _ _ st5))
    refine (targetL hX hg I5' r5 (step x H5 y5)).thn fun _ s6 ⟨σ6, H6, I6, q6, k6⟩ => ?_
    refine (hb.run _ s6 σ6 H6 _ I6 q6).thn fun f s7 ⟨q7, k7⟩ => ?_
    have kk : GKept s s7 := k3.trans (k5.trans (k6.trans k7))
    have again : ∀ {σ7 : L2.St} {H7 : Hp}, InvL X (pins ++ pinsAt fp z'.heap) σ7 H7 s7 → N σ7 H7 → ∃ m, m < n ∧ ∃ i σ' H', InvL X pins σ' H' s7 ∧ tn i s7.heap ∧ (∀ b ∈ fp, H' b = none) ∧ W i m σ' H' ∧ GKept s s7 := fun {σ7 H7} I7 n7 => by
      obtain ⟨m', hm, w7⟩ := hN σ7 H7 n7
      refine ⟨m', hm, i + 1, σ7, H7, I7.unpinned, T.keep _ _ _ st5 fun b hb o e => (I7.pin (b, o) (List.mem_append_right _ (List.mem_append_right _ (mem_pinsAt hb e)))).1, fun b hb => ?_, w7, kk⟩
      obtain ⟨o, e, d⟩ := T.obj _ _ st5 b hb
      exact (I7.pin (b, o) (List.mem_append_right _ (List.mem_append_right _ (mem_pinsAt hb e)))).2.1
    cases f with
    | next => obtain ⟨σ7, H7, I7, n7⟩ := q7; exact again I7 n7
    | cont => obtain ⟨σ7, H7, I7, n7⟩ := q7; exact again I7 n7
    | brk => obtain ⟨σ7, H7, I7, q7⟩ := q7; exact ⟨⟨σ7, H7, I7.unpinned, q7⟩, kk⟩
    | ret v => obtain ⟨x7, σ7, H7, I7, r7, q7⟩ := q7; exact ⟨⟨x7, σ7, H7, I7.unpinned, r7, q7⟩, kk⟩
end
end TF
/-! ## TfCall -/
/-! calls where generators may sleep -/
namespace TF
open PySem PySem.Spec PySem.W PyProof.Rows L2
section
variable {M : Model} {A : Around} {s : Shared} {K : PySem.W.Frag} {env : Env} {pos : Pos} {f : Value} {first : List Value} {Q : Value → Shared → Prop}
theorem callWithL {args : List (Bool × Sem Value)} {keywords : List (Option Str × Sem Value)} (hplain : (args.any (·.1) || keywords.any (·.1.isNone)) = false) (hk : PySem.W.keepIn K f = true)
    (h : WL M A (evalArgs f true args keywords) (fun a y => K.In y.heap ∧ WL M A (call f (first ++ a.pos) a.kw) Q NoX y) NoX s) : WL M A (callWith pos f first args keywords) Q NoX s := by
  unfold callWith
  refine WL.bind (WL.holding (h.thn fun a y ⟨kin, hc⟩ => WL.bind (WL.standAt ?_)))
  obtain ⟨k, hk', L⟩ := keeps_K (M := M) hk _ kin
  simp only [hplain]
  refine WL.bind (WL.of (L.here ?_))
  have tail : ∀ {t : Sem Value}, WL M A t Q NoX y → WL M A (t >>= fun r => holding [r] point >>= fun _ => pure r) Q NoX y := fun ht =>
    WL.bind (ht.thn fun r z hr => WL.bind (WL.of (wpAny_holding (wpAny_point (show WL M A (pure r) Q NoX z from WL.pure hr)))))
  have marked (mk : Value) : WL M A (callMarked mk f (first ++ a.pos) a.kw) Q NoX y := by unfold callMarked; exact WL.keep hc
  rcases hk' with rfl | rfl | rfl <;> dsimp only <;> first | exact tail hc | (split <;> first | exact tail hc | exact tail (marked _))
end
/-- a call's end -/
def CEL (outer : List Env) (P : Program) (w : World) (H : Hp) (s : Shared) (Q : VK) (u : Value) (y : Shared) : Prop :=
  ∃ v H', y.os = s.os ∧ Un (frs outer) [] H H' s.heap y.heap ∧ HOk P w H' y.heap ∧ RelV v u ∧ Q v H' ∧ GKept s y
abbrev SpL := List V → Hp → VK → Prop
structure FnL (P : Program) (w : World) (K : PySem.W.Frag) (mg : Str → Option Value) (base : Heap) (k : Nat) (f : Addr) (fd : FuncData) (ps : List Str) (sp : SpL) : Prop where
  len : ∀ vs H Q, sp vs H Q → vs.length = ps.length
  run : ∀ (A : Around) (outer : List Env) (s : Shared) (H : Hp) (args : Args) (us : List Value) (vs : List V) (Q : VK), Room k A → Env0 P w K mg base A outer (nog s) H → BindsTo s fd args (ps.zip us) → Vals vs us → sp vs H Q →
    CL (model P w) A (.call (.ref f) args) (fun r y => match r with | .ok (.ret u) => CEL outer P w H s Q u y | _ => False) s
theorem FnL.mono {P : Program} {w : World} {K : PySem.W.Frag} {mg : Str → Option Value} {base : Heap} {j k : Nat} {f : Addr} {fd : FuncData} {ps : List Str} {sp : SpL} (F : FnL P w K mg base j f fd ps sp) (h : j ≤ k) : FnL P w K mg base k f fd ps sp :=
  ⟨F.len, fun A outer s H args us vs Q hr => F.run A outer s H args us vs Q (hr.mono h)⟩
section
variable {P : Program} {w : World} {A : Around} {s : Shared}
theorem CL.func {body : List Stmt} {env : Env} {R : Result → Shared → Prop} (h : WL (model P w) (A.deeper env) (execs body env) (fun f y => R (.ok (.ret (match f with | .ret v => v | _ => .none))) y) NoX s) : CL (model P w) A (.func body env) R s := by
  refine CL.tree ?_
  show WL _ (A.deeper env) (do point; match ← (execs body env).onRaise (leaving env) with | .ret v => ret v | _ => ret .none) _ _ s
  refine WL.bind (WL.of (wpAny_point ?_))
  refine WL.bind (WL.mono (wl_wrapped h) (fun f y q => ?_) fun _ _ q => q.elim)
  cases f <;> exact WL.pure q
theorem CL.callFunction {a : Addr} {args : Args} {o : Obj} {fd : FuncData} {body : List Stmt} {R : Result → Shared → Prop} (hroom : A.depth < recursionLimit) (ho : s.heap.get? a = some o) (hd' : o.data = .func fd) (hco : fd.scope.isCoroutine = false)
    (hgen : fd.scope.isGenerator = false) (hbody : fd.body = .stmts body) (hcd : s.heap.CodeRec fd.code fd.qualname)
    (h : wpAny (model P w) A.in1 (bindArgs fd args) (fun binds y =>
      wpAny (model P w) A.in1 (newFunctionEnv fd.scope fd.globals fd.closure binds (fd.qualname ++ ".<locals>.") (some a) fd.code none fd.builtins) (fun env z => z.heap.NoLimit ∧ CL (model P w) A (.func body env) R z) NoX y) NoX s) :
    CL (model P w) A (.call (.ref a) args) R s := by
  refine CL.tree (WL.mono (WL.of (E := NoX) ?_) (fun _ _ q => q) fun _ _ q => q.elim)
  show wpAny _ A.in1 (callAny (.ref a) args) _ _ s
  simp only [callAny]
  refine wpAny_bind (wpAny_load ho ?_)
  obtain ⟨c, oc, vs, tq, hc, hoc, hdc, hq⟩ := hcd
  simp only [hd', PySem.callFunction, hco, hgen, hbody, hc]
  rw [hc] at h
  refine wpAny_bind (m := field (.ref c) 1) (wpAny_field hoc hdc hq (wpAny_bind (wpAny_pure ?_)))
  exact wpAny_bind (wpAny_mono h (fun binds y i => wpAny_bind (wpAny_mono i (fun env z j => wpAny_bind (wpAny_enterFrame j.1 hroom (wpAny_pure (And.intro rfl j.2)))) fun _ _ q => q)) fun _ _ q => q)
end
/-- a def by its body -/
theorem fnL_of {P : Program} {w : World} {K : PySem.W.Frag} {mg : Str → Option Value} {base : Heap} {k : Nat} {f : Addr} {name qual : Str} {params : Arguments} {body : List Stmt} {scope : Scope} {dV kV doc pm cdv ct oc : Value} {an od : Option Addr}
    {osl : Array (Option Value)} {N ps : List Str} {sp : SpL} (lk : K.lookup f = some ⟨oc, od, .func (PySem.W.fnOf name qual params body scope dV kV doc pm an cdv ct), osl⟩) (hcd : PySem.W.codeIn K cdv qual = true) (S : FnScope N ps scope)
    (len : ∀ vs H Q, sp vs H Q → vs.length = ps.length)
    (hbody : ∀ (A : Around) (outer : List Env) (s : Shared) (H : Hp) (vs : List V) (Q : VK) (E : XK), Room k (A.deeper (envOfC qual scope s.heap.objs.size f cdv)) → sp vs H Q →
      ∀ s1 : Shared, InvL (cxOf CX0 P w K mg base N qual scope f cdv A outer s H E).nox [] (start N vs) H s1 →
        WL (model P w) (A.deeper (envOfC qual scope s.heap.objs.size f cdv)) (execs body (envOfC qual scope s.heap.objs.size f cdv)) (fun fl y => SPL (cxOf CX0 P w K mg base N qual scope f cdv A outer s H E).nox [] { nx := fun _ H' => Q .non H', rt := Q } fl y ∧ GKept s1 y) NoX s1) :
    FnL P w K mg base (k + 1) f (PySem.W.fnOf name qual params body scope dV kV doc pm an cdv ct) ps sp := by
  refine ⟨len, fun A outer s H args us vs Q hr e0 hb r hsp => ?_⟩
  have hl := len _ _ _ hsp
  have KX : K.In s.heap := e0.mod.kin.keeps fun b o e => (e0.bs b o e).1
  have lim : s.heap.NoLimit := e0.mod.nolimit.keeps fun b o e => (e0.bs b o e).1
  have hkind : ∀ y ∈ ps.zip us, scope.names.lookup y.1 = some .local ∨ (scope.names.lookup y.1 = some .cell ∧ ((cellsFrom (s.heap.objs.size + 1) scope.names []).lookup y.1).isSome = true) := fun ⟨n, v⟩ hy => by
    rcases S.par n (List.of_mem_zip hy).1 with q | q
    · exact .inl q
    · exact .inr ⟨q, PySem.W.cellsFrom_some _ _ _ (.inl q)⟩
  refine CL.callFunction hr.depth (KX _ _ lk) rfl S.co S.gen rfl (PySem.W.codeRec_of KX hcd) (hb _ _ _ _ ?_)
  refine wpAny_newFunctionEnv_cells S.kind hkind fun env he s1 x => ?_
  subst he
  refine ⟨lim.keeps x.toInCall.keep, CL.func ?_⟩
  obtain ⟨h1, tk, es1, hk1⟩ := x.done
  have gen1 : s1.gens = s.gens := by rw [es1]
  have x' : InCallC (nog s) s.heap.objs.size (bindL (envOfC qual scope s.heap.objs.size f cdv).kindOf (ps.zip us) fun _ => none) (cellsFrom (s.heap.objs.size + 1) scope.names []) (bindC (envOfC qual scope s.heap.objs.size f cdv).kindOf (ps.zip us) fun _ => none) (nog s1) := by
    refine ⟨⟨⟨h1, tk, by rw [es1]; rfl⟩, x.toInCall.ns, x.toInCall.keep, x.toInCall.fresh⟩, x.cell, x.apart, x.above⟩
  have I0 : Inv (cxOf CX0 P w K mg base N qual scope f cdv A outer (nog s) H fun _ _ _ => False) [] (start N vs) H (nog s1) := inv_start S hr.hd e0 hl r x'
  have I1 : InvL (cxOf CX0 P w K mg base N qual scope f cdv A outer (nog s) H fun _ _ _ => False).nox [] (start N vs) H s1 := Inv.wish I0 _
  refine (hbody A outer (nog s) H vs Q (fun _ _ _ => False) (hr.deeper _) hsp s1 I1).thn fun fl y ⟨q, k⟩ => ?_
  have fin : ∀ {σ' : L2.St} {H' : Hp} {v : V} {u : Value}, InvL (cxOf CX0 P w K mg base N qual scope f cdv A outer (nog s) H fun _ _ _ => False).nox [] σ' H' y → RelV v u → Q v H' → CEL outer P w H s Q u y :=
    fun {σ' H' v u} J rv q => ⟨v, H', J.os, J.base, J.hok, rv, q, (GKept.same gen1).trans k⟩
  cases fl with
  | ret u =>
    obtain ⟨v, σ', H', J, rv, q⟩ := q
    exact fin J rv q
  | next =>
    obtain ⟨σ', H', J, q⟩ := q
    exact fin (v := V.non) (u := Value.none) J rfl q
  | brk => obtain ⟨_, _, _, q⟩ := q; exact False.elim q
  | cont => obtain ⟨_, _, _, q⟩ := q; exact False.elim q
/-! ### f(e, ..) -/
def tCallL (sp : SpL) (t : TA) : TE := fun σ H Q => t σ H fun vs H1 => sp vs H1 Q
section
variable {X : Cx} {pins : List (Addr × Obj)} {σ : L2.St} {H : Hp} {s y : Shared}
theorem InvL.env0 (I : InvL X pins σ H s) : Env0 X.prog X.w X.K X.mg X.base X.A X.stack (nog s) H := Inv.env0 I
theorem InvL.after {Q : VK} {u : Value} (I : InvL X pins σ H s) (h : CEL X.stack X.prog X.w H s Q u y) : EPL X pins σ Q s u y := by
  obtain ⟨v, H', os, un, hok, r, q, k⟩ := h
  exact ⟨v, H', Inv.call' (s := nog s) (s' := nog y) (ch := []) I os un hok AllBare.empty (fun b z => absurd z (by simp)), r, q, k⟩
theorem peL_call (hX : Calm X) {k : Nat} {f : Addr} {fd : FuncData} {ps : List Str} {sp : SpL} {x : Str} {p pos : Pos} {e : Expr} {es : List Expr} {t : TA} (F : FnL X.prog X.w X.K X.mg X.base k f fd ps sp) (hr : Room k X.A) (hg : Gl X x) (hm : X.mg x = some (.ref f)) (hk : PySem.W.keepIn X.K (.ref f) = true) (hb : Binds X.K fd ps [])
    (ha : PA X (e :: es) t) (hdb : (x == ("__debug__" : Str)) = false := by decide) (he : starEach (e :: es) X.env = (false, eval e X.env) :: starEach es X.env := by rfl) (hpl : (backTo pos (starEach es X.env)).any (·.1) = false := by rfl) :
    PEL X (.Call (.Name x p) (e :: es) [] pos) (tCallL sp t) := by
  refine ⟨fun pins s σ H Q I h => ?_⟩
  rw [arm_eval_Call_Name']
  refine WL.bind (((PEL.of hX (pe_glob (v := .ref f) hg hm rfl hdb)).run pins s σ H (fun v H' => v = .ref f ∧ H' = H) I ⟨rfl, rfl⟩).thn fun u y ⟨v, H', I1, r1, ⟨e1, e2⟩, k1⟩ => ?_)
  subst e1; subst e2
  obtain rfl : u = Value.ref f := r1
  have hpl2 : ((backTo pos (starEach (e :: es) X.env)).any (·.1) || (backToKw pos (keywordEach [] X.env)).any (·.1.isNone)) = false := by
    rw [he]
    show ((false || (backTo pos (starEach es X.env)).any (·.1)) || false) = false
    rw [hpl]; rfl
  refine callWithL hpl2 hk ?_
  have q := ha.run pos pins (scrub y) σ H' _ I1.scrub h
  rw [he] at q ⊢
  refine lift (E := X.xe) (Calls.evalArgs_plain (f := .ref f) (Q := fun a z => ∃ vs H2, Inv X pins σ H2 z ∧ Vals vs a.pos ∧ a.kw = [] ∧ sp vs H2 Q) (thn q fun us z ⟨vs, H2, I2, r2, q2⟩ => ⟨vs, H2, I2, r2, rfl, q2⟩)) hX fun a z ⟨vs, H2, I2, r2, ekw, q2⟩ => ⟨I2.bare, fun y2 e2 k2 => ⟨?_, ?_⟩⟩
  · subst e2
    exact I2.kIn
  · subst e2
    obtain ⟨apos, akw⟩ := a
    obtain rfl : akw = [] := ekw
    have I3 : InvL X pins σ H2 (rst (sleepers y) z) := InvL.ofR I2
    have hl : apos.length = ps.length := by rw [← r2.length]; exact F.len _ _ _ q2
    have hb2 : BindsTo (rst (sleepers y) z) fd ⟨apos, []⟩ (ps.zip apos) := by
      have := hb (rst (sleepers y) z) apos I2.kIn (by rw [List.append_nil]; exact hl)
      rw [List.append_nil] at this
      exact this
    refine WL.call ((F.run X.A X.stack _ H2 ⟨apos, []⟩ apos vs Q hr I3.env0 hb2 r2 q2).mono fun r y3 q3 => ?_)
    cases r with
    | error x => exact q3.elim
    | ok fl =>
      cases fl with
      | ret u =>
        obtain ⟨v, H', J, rv, qv, k3⟩ := I3.after q3
        exact ⟨v, H', J, rv, qv, k1.trans (k2.trans k3)⟩
      | next => exact q3.elim
      | brk => exact q3.elim
      | cont => exact q3.elim
/-! ### round a call -/
variable {a b : Expr} {ta tb : TE} {pos : Pos}
/-- l == r: the right side plain -/
theorem peL_eq (hX : Calm X) {op : CmpOp} {r : R2} (ho : OpR X (compareOp op) r) (ha : PEL X a ta) (hb : PEL X b tb) (hm : behindInMarks op b = false) : PEL X (.Compare a [op] [b] pos) (tOp r ta tb) := by
  refine ⟨fun pins s σ H Q I h => ?_⟩
  rw [eval_Compare1, markedBehindIn_of_false hm]
  refine WL.bind ((ha.run pins s σ H _ I h).thn fun v y ⟨x, H1, I1, r1, q1, k1⟩ => ?_)
  refine WL.bind (WL.holding ((hb.run pins y σ H1 _ I1 q1).thn fun u z ⟨x2, H2, I2, r2, q2, k2⟩ => ?_))
  refine WL.bind (WL.standAt ?_)
  have q := ho pins (scrub z) σ H2 x x2 v u Q I2.scrub r1 r2 q2
  have q' : wpAny (model X.prog X.w) X.A (operate [v, u] (compareOp op v u)) (EP X pins σ Q) X.xe (scrub z) := fun Γ p hΓ => by
    rw [Sem.wp_operate]; exact q Γ p hΓ
  exact lift q' hX fun c z2 ⟨v3, H3, I3, r3, q3⟩ => ⟨I3.bare, fun y3 e3 k3 => ⟨v3, H3, by subst e3; exact InvL.ofR I3, r3, q3, k1.trans (k2.trans k3)⟩⟩
/-- a and b, bools -/
theorem peL_and {rest : List Expr} (ha : PEL X a ta) (hb : PEL X (.BoolOp .And (b :: rest) pos) tb) : PEL X (.BoolOp .And (a :: b :: rest) pos) (tAndV ta tb) := by
  refine ⟨fun pins s σ H Q I h => ?_⟩
  show WL (model X.prog X.w) X.A (do
    let v ← eval a X.env
    standAt pos
    let c ← holding [v] (truthy v)
    match BoolOp.And, c with
    | .And, false | .Or, true => pure v
    | _, _ => boolOp pos .And (eval b X.env :: evalEach rest X.env)) _ _ s
  refine WL.bind ((ha.run pins s σ H _ I h).thn fun v y ⟨x, H1, I1, r1, q1, k1⟩ => ?_)
  obtain ⟨c, rfl, q1⟩ := q1
  cases r1
  refine WL.bind (WL.standAt (WL.bind (WL.holding (WL.of (wpAny_truthy_bool ?_)))))
  cases c with
  | true => exact ((show WL (model X.prog X.w) X.A (eval (.BoolOp .And (b :: rest) pos) X.env) _ _ y from hb.run pins y σ H1 Q I1 q1)).thn fun u z ⟨v, H', J, r, q, k⟩ => ⟨v, H', J, r, q, k1.trans k⟩
  | false => exact WL.pure ⟨.bl false, H1, I1, rfl, q1, k1⟩
theorem peL_one {op : BoolOp} (h : PEL X a ta) : PEL X (.BoolOp op [a] pos) ta := ⟨fun pins s σ H Q I hw => (show WL (model X.prog X.w) X.A (eval a X.env) _ _ s from h.run pins s σ H Q I hw)⟩
theorem ptL_val (ha : PEL X a ta) (he : ∀ whole, isTrue a X.env whole = (do let v ← whole; standAt a.pos; holding [v] (truthy v)) := by intro _; rfl) : PTL X a (tB ta) := by
  refine ⟨fun pins s σ H Q I h => ?_⟩
  rw [he]
  refine WL.bind ((ha.run pins s σ H _ I h).thn fun v y ⟨x, H1, I1, r1, q1, k1⟩ => ?_)
  obtain ⟨d, rfl, q⟩ := q1
  cases r1
  exact WL.bind (WL.standAt (WL.holding (WL.of (wpAny_truthy_bool ⟨H1, I1, q, k1⟩))))
theorem ptL_not {t : TT} (ha : PTL X a t) : PTL X (.UnaryOp .Not a pos) (tNot t) := by
  refine ⟨fun pins s σ H Q I h => ?_⟩
  show WL _ _ (do return !(← isTrue a X.env (eval a X.env))) _ _ s
  exact WL.bind ((ha.run pins s σ H (fun c H1 => Q (!c) H1) I h).thn fun c y q => WL.pure q)
end
end TF
/-! ## TfGen -/
/-! a generator that hands out given items, whoever wakes it -/
namespace TF
open PySem PySem.Spec PySem.W PyProof.Rows L2
/-- what is fixed through a generator's life: A, outer: where it is woken; L: its frame, younger objects are its own; a: its object; g: its number -/
structure GD where
  P : Program
  w : World
  K : PySem.W.Frag
  mg : Str → Option Value
  base : Heap
  A : Around
  outer : List Env
  L : Addr
  a : Addr
  g : Nat
/-- a waking: the state, the abstract heap, its object as it is, the numbers of the sleepers below it -/
structure Wk where
  s : Shared
  H : Hp
  own : Obj
  D : List Nat
  pin : List (Addr × Obj)
abbrev YP := V → Hp → Prop
/-- what the generator may change of the old: what is younger than its frame and not pinned by its consumer -/
def young (L : Addr) (W : Wk) : List Addr := (List.range W.s.heap.objs.size).filter fun b => decide (L ≤ b) && !(W.pin.map (·.1)).contains b
theorem mem_young {L b : Addr} {W : Wk} : b ∈ young L W ↔ b < W.s.heap.objs.size ∧ L ≤ b ∧ b ∉ W.pin.map (·.1) := by
  unfold young
  rw [List.mem_filter, List.mem_range, Bool.and_eq_true, decide_eq_true_iff]
  simp
def TupKeep (H H' : Hp) : Prop := ∀ b xs, H b = some (.tup xs) → H' b = some (.tup xs)
theorem TupKeep.of_same {H H' : Hp} (h : Same H H') : TupKeep H H' := fun b xs e => h b _ e
theorem TupKeep.trans {H H' H'' : Hp} (h : TupKeep H H') (k : TupKeep H' H'') : TupKeep H H'' := fun b xs e => k b xs (h b xs e)
theorem TupKeep.refl (H : Hp) : TupKeep H H := fun _ _ e => e
structure Aft (G : GD) (W : Wk) (H' : Hp) (y : Shared) : Prop where
  os : y.os = W.s.os
  un : Un (frs G.outer) (young G.L W) W.H H' W.s.heap y.heap
  hok : HOk G.P G.w H' y.heap
  same : Same W.H H'
  own : y.heap.get? G.a = some W.own
  free : H' G.a = none
  pin : ∀ p ∈ W.pin, y.heap.get? p.1 = some p.2 ∧ H' p.1 = none
  size : W.s.gens.size ≤ y.gens.size
  sleep : ∀ (i : Nat) (x : GenState), W.s.gens[i]? = some x → IsSusp x = true → i ∉ W.D → i ≠ G.g → y.gens[i]? = some x
/-- the table behind a turn: bare, or an old sleeper of others, or of the chain -/
def GC (W : Wk) (y : Shared) (ch : List (Nat × GenState)) : Prop :=
  ∀ (i : Nat) (x : GenState), y.gens[i]? = some x → x.bare = true ∨ (W.s.gens[i]? = some x ∧ i ∉ W.D) ∨ (i, x) ∈ ch
/-- a sleeper with a mark sleeps over a generator that is pinned -/
def LoudOk (priv : List (Addr × Obj)) (x : GenState) : Prop :=
  x.bare = true ∨ ∃ k l a more kw p fs o n, x = .suspended k l (.builtin "proto.yield_from" ⟨.ref a :: more, kw⟩) p fs true ∧ fs.any Frame.guarded = false ∧ (a, o) ∈ priv ∧ o.genNumber? = some n
structure Pre (G : GD) (W : Wk) (priv : List (Addr × Obj)) (sus : List (Nat × GenState)) (Hy : Hp) : Prop where
  env : Env0 G.P G.w G.K G.mg G.base G.A G.outer (nog W.s) W.H
  own : W.s.heap.get? G.a = some W.own
  obj : GenObj W.own G.g 0
  free : W.H G.a = none
  prv : ∀ p ∈ priv, W.s.heap.get? p.1 = some p.2 ∧ W.H p.1 = none
  slp : ∀ q ∈ sus, W.s.gens[q.1]? = some q.2
  tups : TupKeep Hy W.H
  D : W.D = sus.map (·.1)
  inb : G.g < W.s.gens.size
  pin : ∀ p ∈ W.pin, W.s.heap.get? p.1 = some p.2 ∧ W.H p.1 = none ∧ p.1 ≠ G.a ∧ p.1 ∉ frs G.outer ∧ (∀ v, p.2.data ≠ .cell v) ∧ ∀ q ∈ priv, p.1 ≠ q.1
/-- the end of a turn -/
def Trn (G : GD) : List YP → Wk → End → Shared → Prop
  | [], W, e, y => (∃ r, e = .ret r ∧ (r = .ok (.ret .none) ∨ r = .ok .next)) ∧ ∃ H', Aft G W H' y ∧ GC W y []
  | φ :: rest, W, e, y => ∃ v gd l k c p fs x H' priv sus, e = .susp v gd l k c p fs ∧ OkEnd e y ∧ RelV x v ∧ φ x H' ∧ Aft G W H' y ∧ GC W y sus ∧
      (∀ p ∈ priv, y.heap.get? p.1 = some p.2 ∧ H' p.1 = none ∧ G.L ≤ p.1 ∧ p.1 ≠ G.a ∧ (∀ v, p.2.data ≠ .cell v) ∧ ∀ r ∈ W.pin, r.1 ≠ p.1) ∧
      (∀ q ∈ sus, y.gens[q.1]? = some q.2 ∧ IsSusp q.2 = true ∧ LoudOk priv q.2 ∧ G.g < q.1 ∧ (q.1 ∈ W.D ∨ W.s.gens.size ≤ q.1)) ∧ LoudOk priv e.genState ∧
      ∀ W2, Pre G W2 priv sus H' → WakesTo (model G.P G.w) G.A e.genState (W2.s.setGen G.g .running) (Trn G rest W2)
/-! ### the context of its frame, from a waking -/
def cutH (h : Heap) (L : Addr) : Heap := { h with objs := h.objs.extract 0 L }
theorem cutH_get {h : Heap} {L b : Addr} (hb : b < L) : (cutH h L).get? b = h.get? b := by
  unfold Heap.get? cutH
  simp only [Array.getElem?_extract]
  by_cases e : b < h.objs.size
  · have q : b < min L h.objs.size - 0 := by rw [Nat.sub_zero]; exact Nat.lt_min.mpr ⟨hb, e⟩
    rw [if_pos q, Nat.zero_add]
  · have q : ¬ b < min L h.objs.size - 0 := fun z => e (Nat.lt_of_lt_of_le z (by rw [Nat.sub_zero]; exact Nat.min_le_right _ _))
    rw [if_neg q, Array.getElem?_eq_none (Nat.le_of_not_lt e)]
theorem cutH_size {h : Heap} {L : Addr} (hL : L ≤ h.objs.size) : (cutH h L).objs.size = L := by
  simp only [cutH, Array.size_extract, Nat.sub_zero]
  exact Nat.min_eq_left hL
theorem of_cutH {h : Heap} {L b : Addr} {o : Obj} (e : (cutH h L).get? b = some o) : b < L ∧ h.get? b = some o := by
  have hb : b < L := by
    have := Heap.lt_size e
    have h2 : (cutH h L).objs.size ≤ L := by
      simp only [cutH, Array.size_extract, Nat.sub_zero]
      exact Nat.min_le_left _ _
    exact Nat.lt_of_lt_of_le this h2
  exact ⟨hb, by rw [← cutH_get hb]; exact e⟩
def cutS (s : Shared) (L : Addr) : Shared := { s with heap := cutH s.heap L, gens := #[] }
def gX (G : GD) (N : List Str) (env : Env) (W : Wk) : Cx where
  prog := G.P
  w := G.w
  K := G.K
  mg := G.mg
  base := G.base
  A := G.A.deeper env
  N := N
  s_0 := cutS W.s G.L
  H_0 := W.H
  env := env
  outer := G.outer
  stack := env :: G.outer
  ex := []
  fn := fun _ => true
  calm := true
  pn := (G.a, W.own) :: W.pin
  xe := NoX
theorem gX_calm (G : GD) (N : List Str) (env : Env) (W : Wk) : Calm (gX G N env W) := fun _ _ h => h
/-- what is known of the frame for ever -/
structure GFix (G : GD) (N : List Str) (env : Env) : Prop where
  loc : env.locals = G.L
  kind : env.scope.kind = .function
  glob : env.globals = mainGlobals
  blt : env.builtins = builtinsNs
  frame : env.frame = some env.locals
  cells : env.cells = []
  nocell : ∀ x, env.kindOf x ≠ some .cell ∧ env.kindOf x ≠ some .free
  base : G.base.objs.size ≤ G.L
  frs : ∀ b ∈ frs G.outer, b < G.L
  ne : G.a ≠ G.L
  young : G.L ≤ G.a
  hd : G.A.handled = none
/-- the frame's names, as its object says -/
structure Names (N : List Str) (env : Env) (σ : L2.St) (oL : Obj) : Prop where
  len : σ.length = N.length
  ns : ∃ m, (∀ h : Heap, h.get? env.locals = some oL → h.Ns env.locals m) ∧ ∀ (i : Nat) (x : Str) (v : V), N[i]? = some x → σ[i]? = some (some v) → Vis env.scope x → ∃ u, RelV v u ∧ env.kindOf x = some .local ∧ m x = some u
  nocell : ∀ v, oL.data ≠ .cell v
theorem ns_of {h : Heap} {L : Addr} {m : Str → Option Value} (n : h.Ns L m) : ∃ o, h.get? L = some o ∧ (∀ v, o.data ≠ .cell v) ∧ ∀ h' : Heap, h'.get? L = some o → h'.Ns L m := by
  obtain ⟨o, es, ep, ho, hd, r⟩ := n
  exact ⟨o, ho, (fun v q => by rw [hd] at q; cases q), fun h' e => ⟨o, es, ep, e, hd, r⟩⟩
section
variable {G : GD} {N : List Str} {env : Env} {W : Wk} {pins : List (Addr × Obj)} {σ : L2.St} {H : Hp} {s : Shared}
theorem names_of (F : GFix G N env) (I : InvL (gX G N env W) pins σ H s) : ∃ oL, s.heap.get? G.L = some oL ∧ H G.L = none ∧ Names N env σ oL := by
  obtain ⟨m, hn, hl⟩ := I.loc
  obtain ⟨o, ho, hc, hm⟩ := ns_of hn
  have hloc := F.loc
  refine ⟨o, by rw [← hloc]; exact ho, by rw [← hloc]; exact I.free, I.len, ⟨m, hm, fun i x v h1 h2 h3 => ?_⟩, hc⟩
  obtain ⟨u, r, l⟩ := hl i x v h1 h2 h3
  rcases l with ⟨k, e⟩ | ⟨k, _⟩
  · exact ⟨u, r, k, e⟩
  · rcases k with k | k
    · exact absurd k (F.nocell x).1
    · exact absurd k (F.nocell x).2
theorem funFrames_cut {h B : Heap} {L : Addr} : ∀ {l : List Env}, h.FunFrames B l → (∀ b ∈ frs l, b < L) → (cutH h L).FunFrames B l := by
  intro l
  induction l with
  | nil => intro _ _; trivial
  | cons env r ih =>
    intro hl hb
    obtain ⟨hk, ⟨b, o, hf, hn, ho, hd⟩, hr⟩ := hl
    have hbL : b < L := hb b (by unfold frs; rw [List.filterMap_cons, hf]; exact List.mem_cons_self)
    refine ⟨hk, ⟨b, o, hf, hn, by rw [cutH_get hbL]; exact ho, hd⟩, ih hr fun c hc => hb c ?_⟩
    unfold frs
    rw [List.filterMap_cons, hf]
    exact List.mem_cons_of_mem _ hc
/-- THE WAKING: the frame's invariant over the state at hand -/
theorem inv_at {priv : List (Addr × Obj)} {sus : List (Nat × GenState)} {Hy : Hp} {oL : Obj} (F : GFix G N env) (P : Pre G W priv sus Hy) (hL : (G.L, oL) ∈ priv) (n : Names N env σ oL)
    (hp : ∀ p ∈ pins, p ∈ priv ∧ p.1 ≠ G.L ∧ G.L ≤ p.1 ∧ ∀ v, p.2.data ≠ .cell v) : InvL (gX G N env W) pins σ W.H W.s := by
  have hloc := F.loc
  have e0 := P.env
  have hbL : ∀ b o, (cutH W.s.heap G.L).get? b = some o → b < G.L ∧ W.s.heap.get? b = some o := fun b o e => of_cutH e
  have hLs := P.prv _ hL
  have szL : G.L < W.s.heap.objs.size := Heap.lt_size hLs.1
  have cutsz : (cutH W.s.heap G.L).objs.size = G.L := cutH_size (Nat.le_of_lt szL)
  obtain ⟨m, hm, hl⟩ := n.ns
  have hcell : ∀ x c, env.cells.lookup x = some c → False := fun x c e => by rw [F.cells] at e; cases e
  have nf : ∀ b, G.L ≤ b → b ∉ frs G.outer := fun b hb z => absurd (F.frs b z) (Nat.not_lt.mpr hb)
  have noA : ∀ b : Addr, b ∉ (gX G N env W).ex := fun b z => absurd (show b ∈ ([] : List Addr) from z) (by simp)
  refine ⟨⟨e0.mod, F.kind, F.glob, F.blt, ?_, fun x y c h1 => (hcell x c h1).elim, fun x hx => ?_, fun x c _ h1 => (hcell x c h1).elim, fun _ => F.hd, ?_, .inr ⟨rfl, F.frame⟩, fun b z => absurd z (noA b), fun b o e => ?_, ?_, fun b o _ => noA b, fun b z => absurd z (noA b), ?_, e0.frf⟩,
    rfl, AllBare.empty, ⟨fun b o e n _ _ => (hbL b o e).2, fun b o e n _ _ => ⟨o.slots, (hbL b o e).2⟩, fun b o e n _ => n, fun b o e _ => ⟨o, (hbL b o e).2⟩, fun _ _ e => e, fun _ _ _ e => e, fun b ps e => ⟨#[], by have e' : W.H b = some (.tbl ps) := e; rw [e']; simp⟩⟩, ?_, fun x c e => (hcell x c e).elim, ?_, fun x c e => (hcell x c e).elim, fun p hpp => ?_, e0.hok, n.len⟩
  · show (cutH W.s.heap G.L).objs.size ≤ env.locals
    rw [cutsz, hloc]; exact Nat.le_refl _
  · rcases hx with hx | hx
    · exact absurd hx (F.nocell x).1
    · exact absurd hx (F.nocell x).2
  · exact Around.frames_deeper e0.frames
  · have hb : b < G.L := Nat.lt_of_lt_of_le (Heap.lt_size e) F.base
    exact ⟨by show (cutH W.s.heap G.L).get? b = some o; rw [cutH_get hb]; exact (e0.bs b o e).1, (e0.bs b o e).2⟩
  · show G.base.objs.size ≤ (cutH W.s.heap G.L).objs.size
    rw [cutsz]; exact F.base
  · exact funFrames_cut e0.funs F.frs
  · exact ⟨m, hm _ (by rw [hloc]; exact hLs.1), fun i x v h1 h2 h3 => by
      obtain ⟨u, r, k, e⟩ := hl i x v h1 h2 h3
      exact ⟨u, r, .inl ⟨k, e⟩⟩⟩
  · show W.H env.locals = none
    rw [hloc]; exact hLs.2
  · rcases List.mem_append.mp hpp with hpp | hpp
    · rcases List.mem_cons.mp hpp with hpp | hpp
      case inr =>
        obtain ⟨h1, h2, h3, h4, h5, h6⟩ := P.pin p hpp
        exact ⟨h1, h2, by show p.1 ≠ env.locals; rw [hloc]; exact h6 _ hL, h4, h5⟩
      rw [hpp]
      refine ⟨P.own, P.free, by show G.a ≠ env.locals; rw [hloc]; exact F.ne, nf _ F.young, fun v q => ?_⟩
      obtain ⟨nm, qn, hd⟩ := P.obj.data
      have q' : W.own.data = .cell v := q
      rw [hd] at q'; cases q'
    · obtain ⟨h1, h2, h3, h4⟩ := hp p hpp
      exact ⟨(P.prv p h1).1, (P.prv p h1).2, by show p.1 ≠ env.locals; rw [hloc]; exact h2, nf _ h3, h4⟩
/-- behind the frame's own steps -/
theorem aft_of (F : GFix G N env) (I : InvL (gX G N env W) pins σ H s) (hs : Same W.H H) (hpin : ∀ p ∈ W.pin, W.s.heap.get? p.1 = some p.2) (hz : W.s.gens.size ≤ s.gens.size) (hsl : ∀ (i : Nat) (x : GenState), W.s.gens[i]? = some x → IsSusp x = true → i ∉ W.D → i ≠ G.g → s.gens[i]? = some x) : Aft G W H s := by
  have hb := I.base
  have ip : ∀ p ∈ W.pin, s.heap.get? p.1 = some p.2 ∧ H p.1 = none := fun p hp => by
    obtain ⟨h1, h2, _⟩ := I.pin p (List.mem_append_left _ (List.mem_cons_of_mem _ hp))
    exact ⟨h1, h2⟩
  have hy : ∀ b o, W.s.heap.get? b = some o → b ∉ young G.L W → (b < G.L ∧ (cutH W.s.heap G.L).get? b = some o) ∨ (G.L ≤ b ∧ s.heap.get? b = some o ∧ H b = none) := fun b o e hn => by
    by_cases hbL : b < G.L
    · exact .inl ⟨hbL, by rw [cutH_get hbL]; exact e⟩
    · have hbL := Nat.le_of_not_lt hbL
      by_cases hm : b ∈ W.pin.map (·.1)
      · obtain ⟨p, hp, rfl⟩ := List.mem_map.mp hm
        have := hpin p hp
        rw [e] at this
        cases this
        exact .inr ⟨hbL, ip p hp⟩
      · exact absurd (mem_young.mpr ⟨Heap.lt_size e, hbL, hm⟩) hn
  have hpn := I.pin (G.a, W.own) (List.mem_append_left _ List.mem_cons_self)
  refine ⟨I.os, ⟨fun b o e n h1 h2 => ?_, fun b o e n h1 h2 => ?_, fun b o e n h2 => ?_, fun b o e h2 => ?_, hb.tups, hb.frzs, hb.tbls⟩, I.hok, hs, hpn.1, hpn.2.1, ip, hz, hsl⟩
  · rcases hy b o e h2 with ⟨_, z⟩ | ⟨_, z, _⟩
    · exact hb.keep b o z n h1 (by simp [gX])
    · exact z
  · rcases hy b o e h2 with ⟨_, z⟩ | ⟨_, z, _⟩
    · exact hb.slot b o z n h1 (by simp [gX])
    · exact ⟨o.slots, z⟩
  · rcases hy b o e h2 with ⟨_, z⟩ | ⟨_, _, z⟩
    · exact hb.free b o z n (by simp [gX])
    · exact z
  · rcases hy b o e h2 with ⟨_, z⟩ | ⟨_, z, _⟩
    · exact hb.there b o z (by simp [gX])
    · exact ⟨o, z⟩
end
end TF
/-! ## TfYs -/
/-! a generator's statements -/
namespace TF
open PySem PySem.Spec PySem.W PyProof.Rows L2
structure SegOk (G : GD) (pins : List (Addr × Obj)) (W : Wk) (s : Shared) (ch : List (Nat × GenState)) : Prop where
  gc : GC W s ch
  size : W.s.gens.size ≤ s.gens.size
  inb : G.g < W.s.gens.size
  low : G.L ≤ W.s.heap.objs.size
  at_ : ∀ p ∈ W.pin, W.s.heap.get? p.1 = some p.2
  apart : ∀ p ∈ W.pin, ∀ q ∈ pins, p.1 ≠ q.1
  sleep : ∀ (i : Nat) (x : GenState), W.s.gens[i]? = some x → IsSusp x = true → i ∉ W.D → i ≠ G.g → s.gens[i]? = some x
  chD : ∀ q ∈ ch, q.1 ∈ W.D ∨ W.s.gens.size ≤ q.1
theorem SegOk.kept {G : GD} {pins : List (Addr × Obj)} {W : Wk} {s y : Shared} {ch : List (Nat × GenState)} (h : SegOk G pins W s ch) (k : GKept s y) : SegOk G pins W y ch :=
  ⟨fun i x e => (k.bare i x e).elim .inl (h.gc i x), Nat.le_trans h.size k.size, h.inb, h.low, h.at_, h.apart, fun i x e q nD ng => k.sleep i x (h.sleep i x e q nD ng) q, h.chD⟩
/-- where the code stands -/
structure GCode (G : GD) (env : Env) (c : Code) (fs : List Frame) (gd : Bool → Bool) : Prop where
  over : G.A.over c fs = G.A.deeper env
  split : splitAtGen fs = none
  guard : fs.any Frame.guarded = false
  gd : gd false = false
/-- what is wanted behind a statement: the items that are left, the heap at the last waking, the slots, the heap -/
structure GE where
  nx : List YP → Hp → L2.St → Hp → Prop
  rt : List YP → Hp → VK
  bk : List YP → Hp → L2.St → Hp → Prop := fun _ _ _ _ => False
  ct : List YP → Hp → L2.St → Hp → Prop := fun _ _ _ _ => False
abbrev TY := GE → List YP → Hp → L2.St → Hp → Prop
def GE.at (D : GE) (rest : List YP) (Hw : Hp) : Ends := { nx := D.nx rest Hw, rt := D.rt rest Hw, bk := D.bk rest Hw, ct := D.ct rest Hw }
def YO (G : GD) (N : List Str) (env : Env) (pins : List (Addr × Obj)) (D : GE) (rest : List YP) (W : Wk) (f : Flow) (s : Shared) : Prop := SPL (gX G N env W) pins (D.at rest W.H) f s
structure YK (G : GD) (N : List Str) (env : Env) (pins : List (Addr × Obj)) (c : Code) (fs : List Frame) (K : Flow → Sem PySem.Fin) (D : GE) : Prop where
  ok : ∀ rest W s f, YO G N env pins D rest W f s → SegOk G pins W s [] → SgL (model G.P G.w) G.A (Trn G rest W) c (K f) fs s
structure YS (G : GD) (N : List Str) (env : Env) (st : Stmt) (t : TY) : Prop where
  run : ∀ (pins : List (Addr × Obj)) (W : Wk) (rest : List YP) (c : Code) (fs : List Frame) (K : Flow → Sem PySem.Fin) (J : Value → Sem PySem.Fin) (gd : Bool → Bool) (lv : List Value → List Value) (s : Shared) (σ : L2.St) (H : Hp) (D : GE),
    GCode G env c fs gd → (∀ p ∈ pins, G.L ≤ p.1 ∧ p.1 ≠ G.a) → YK G N env pins c fs K D → InvL (gX G N env W) pins σ H s → SegOk G pins W s [] → t D rest W.H σ H →
    SgL (model G.P G.w) G.A (Trn G rest W) c ((exec st env).wrap K J gd lv) fs s
structure YSs (G : GD) (N : List Str) (env : Env) (st : List Stmt) (t : TY) : Prop where
  run : ∀ (pins : List (Addr × Obj)) (W : Wk) (rest : List YP) (c : Code) (fs : List Frame) (K : Flow → Sem PySem.Fin) (J : Value → Sem PySem.Fin) (gd : Bool → Bool) (lv : List Value → List Value) (s : Shared) (σ : L2.St) (H : Hp) (D : GE),
    GCode G env c fs gd → (∀ p ∈ pins, G.L ≤ p.1 ∧ p.1 ≠ G.a) → YK G N env pins c fs K D → InvL (gX G N env W) pins σ H s → SegOk G pins W s [] → t D rest W.H σ H →
    SgL (model G.P G.w) G.A (Trn G rest W) c ((execs st env).wrap K J gd lv) fs s
section
variable {M : Model} {A : Around} {Φ : End → Shared → Prop} {c : Code} {fs : List Frame} {s : Shared}
/-- the head of a bind -/
theorem sgw_bind {α β : Type} {m : Sem α} {f : α → Sem β} {K : β → Sem PySem.Fin} {J : Value → Sem PySem.Fin} {gd : Bool → Bool} {lv : List Value → List Value}
    (h : WL M (A.over c fs) m (fun a y => SgL M A Φ c ((f a).wrap K J gd lv) fs y) NoX s) : SgL M A Φ c ((m >>= f).wrap K J gd lv) fs s := by
  rw [Sem.bind_eq_wrap', Sem.wrap_wrap]
  exact sg_wrap (h.mono (fun _ _ q => q) fun _ _ q => q.elim)
end
section
variable {G : GD} {N : List Str} {env : Env} {st : Stmt} {rest : List Stmt} {pos : Pos}
def tyPlain (t : TS) : TY := fun D rest Hw σ H => t (D.at rest Hw) σ H
theorem ys_plain {t : TS} (h : ∀ W, PS (gX G N env W) st t) : YS G N env st (tyPlain t) := by
  refine ⟨fun pins W rest c fs K J gd lv s σ H D g hp k I o ht => ?_⟩
  refine sg_wrap ?_
  rw [g.over]
  exact ((PSL.of (gX_calm G N env W) (h W)).run pins s σ H (D.at rest W.H) I ht).mono (fun f y ⟨q, kp⟩ => k.ok rest W y f q (o.kept kp)) fun _ _ q => q.elim
theorem yss_plain {sts : List Stmt} {t : TS} (h : ∀ W, PSs (gX G N env W) sts t) : YSs G N env sts (tyPlain t) := by
  refine ⟨fun pins W rest c fs K J gd lv s σ H D g hp k I o ht => ?_⟩
  refine sg_wrap ?_
  rw [g.over]
  exact ((PSsL.of (gX_calm G N env W) (h W)).run pins s σ H (D.at rest W.H) I ht).mono (fun f y ⟨q, kp⟩ => k.ok rest W y f q (o.kept kp)) fun _ _ q => q.elim
def tyNil : TY := fun D rest Hw σ H => D.nx rest Hw σ H
theorem yss_nil : YSs G N env [] tyNil := by
  refine ⟨fun pins W rest c fs K J gd lv s σ H D g hp k I o ht => ?_⟩
  exact k.ok rest W s .next ⟨σ, H, I, ht⟩ o
def tyThen (t u : TY) : TY := fun D rest Hw σ H => t { D with nx := u D } rest Hw σ H
theorem yss_cons {t u : TY} (a : YS G N env st t) (b : YSs G N env rest u) : YSs G N env (st :: rest) (tyThen t u) := by
  refine ⟨fun pins W rs c fs K J gd lv s σ H D g hp k I o ht => ?_⟩
  rw [execs_cons_wrap]
  refine a.run pins W rs c fs _ J gd lv s σ H { D with nx := u D } g hp ⟨fun rs2 W2 s2 f q o2 => ?_⟩ I o ht
  cases f with
  | next =>
    obtain ⟨σ', H', I', q⟩ := q
    exact b.run pins W2 rs2 c fs K J gd lv s2 σ' H' D g hp k I' o2 q
  | brk => exact k.ok rs2 W2 s2 .brk q o2
  | cont => exact k.ok rs2 W2 s2 .cont q o2
  | ret u => exact k.ok rs2 W2 s2 (.ret u) q o2
theorem yss_one {t : TY} (a : YS G N env st t) : YSs G N env [st] (tyThen t tyNil) := yss_cons a yss_nil
/-! ### if -/
def tyIf (c : TT) (t u : TY) : TY := fun D rest Hw σ H => c σ H fun b H1 => if b = true then t D rest Hw σ H1 else u D rest Hw σ H1
theorem ys_if {test : Expr} {a b : List Stmt} {tc : TT} {t u : TY} (hc : ∀ W, PT (gX G N env W) test tc) (ha : YSs G N env a t) (hb : YSs G N env b u) : YS G N env (.If test a b pos) (tyIf tc t u) := by
  refine ⟨fun pins W rs c fs K J gd lv s σ H D g hp k I o ht => ?_⟩
  rw [exec_If]
  refine sgw_bind (WL.standAt (sgw_bind ?_))
  rw [g.over]
  refine ((PTL.of (gX_calm G N env W) (hc W)).run pins s σ H _ I ht).mono (fun d y ⟨H1, I1, q, kp⟩ => ?_) fun _ _ q => q.elim
  cases d with
  | true => exact ha.run pins W rs c fs K J gd lv y σ H1 D g hp k I1 (o.kept kp) q
  | false => exact hb.run pins W rs c fs K J gd lv y σ H1 D g hp k I1 (o.kept kp) q
/-! ### yield -/
def tyYield (te : TE) : TY := fun D rest Hw σ H => ∃ φ rs, rest = φ :: rs ∧ te σ H fun x H1 => Same Hw H1 ∧ φ x H1 ∧ ∀ H2, TupKeep H1 H2 → D.nx rs H2 σ H2
/-- the frame sleeps: what stays -/
theorem ys_sleep {pins : List (Addr × Obj)} {W : Wk} {s : Shared} {σ : L2.St} {H : Hp} (F : GFix G N env) (hp : ∀ p ∈ pins, G.L ≤ p.1 ∧ p.1 ≠ G.a) (I : InvL (gX G N env W) pins σ H s) :
    ∃ oL, Names N env σ oL ∧ (∀ p ∈ (G.L, oL) :: pins, s.heap.get? p.1 = some p.2 ∧ H p.1 = none ∧ G.L ≤ p.1 ∧ p.1 ≠ G.a ∧ ∀ v, p.2.data ≠ .cell v) ∧ ∀ p ∈ pins, p.1 ≠ G.L := by
  obtain ⟨oL, h1, h2, n⟩ := names_of F I
  refine ⟨oL, n, fun p hpp => ?_, fun p hpp => ?_⟩
  · rcases List.mem_cons.mp hpp with rfl | hpp
    · exact ⟨h1, h2, Nat.le_refl _, Ne.symm F.ne, n.nocell⟩
    · obtain ⟨a1, a2, _, _, a5⟩ := I.pin p (List.mem_append_right _ hpp)
      exact ⟨a1, a2, (hp p hpp).1, (hp p hpp).2, a5⟩
  · obtain ⟨_, _, a3, _⟩ := I.pin p (List.mem_append_right _ hpp)
    have a3' : p.1 ≠ env.locals := a3
    rw [F.loc] at a3'; exact a3'
theorem segOk_woken {W2 : Wk} {priv : List (Addr × Obj)} {sus : List (Nat × GenState)} {Hy : Hp} {pins : List (Addr × Obj)} (hy : G.L ≤ G.a) (P : Pre G W2 priv sus Hy) (hps : ∀ q ∈ pins, q ∈ priv) : SegOk G pins W2 (W2.s.setGen G.g .running) sus := by
  refine ⟨fun i x e => ?_, by simp [Shared.setGen], P.inb, Nat.le_trans hy (Nat.le_of_lt (Heap.lt_size P.own)), fun p hp => (P.pin p hp).1, fun p hp q hq => (P.pin p hp).2.2.2.2.2 q (hps q hq), fun i x e q nD ng => by
    show (W2.s.gens.setIfInBounds G.g .running)[i]? = some x
    rw [Array.getElem?_setIfInBounds_ne (Ne.symm ng)]
    exact e, fun q hq => .inl (by rw [P.D]; exact List.mem_map.mpr ⟨q, hq, rfl⟩)⟩
  have e' : (W2.s.gens.setIfInBounds G.g .running)[i]? = some x := e
  by_cases hi : G.g = i
  · subst hi
    rw [Array.getElem?_setIfInBounds_self_of_lt P.inb] at e'
    cases e'
    exact .inl rfl
  · rw [Array.getElem?_setIfInBounds_ne hi] at e'
    by_cases hD : i ∈ W2.D
    · rw [P.D] at hD
      obtain ⟨q, hq, rfl⟩ := List.mem_map.mp hD
      have := P.slp q hq
      rw [e'] at this
      cases this
      exact .inr (.inr hq)
    · exact .inr (.inl ⟨e', hD⟩)
theorem ys_yield {e : Expr} {yp : Pos} {te : TE} (F : GFix G N env) (he : ∀ W, PE (gX G N env W) e te) (hco : env.scope.isCoroutine = false := by rfl) (hi : interactive env = false := by rfl) : YS G N env (.Expr (.Yield (some e) yp) pos) (tyYield te) := by
  refine ⟨fun pins W rs c fs K J gd lv s σ H D g hp k I o ht => ?_⟩
  obtain ⟨φ, rs', rfl, ht⟩ := ht
  rw [exec_Expr env _ pos hi rfl]
  show SgL (model G.P G.w) G.A _ c (.at pos fun _ => ((eval e env >>= fun v => (standAt yp >>= fun _ => yieldOut env v)) >>= fun x => dropValue (.Yield (some e) yp) pos x).wrap K J gd lv) fs s
  have hy : ∀ v, yieldOut env v = yieldValue v := fun v => by simp only [yieldOut, hco, Bool.false_eq_true, if_false]
  simp only [hy]
  refine sg_at ?_
  rw [Sem.bind_eq_wrap', Sem.bind_eq_wrap', Sem.wrap_wrap, Sem.wrap_wrap]
  refine sg_wrap ?_
  rw [g.over]
  refine ((PEL.of (gX_calm G N env W) (he W)).run pins s σ H _ I ht).mono (fun v y ⟨x, H1, I1, r1, ⟨sm, hφ, hn⟩, kp⟩ => ?_) fun _ _ q => q.elim
  obtain ⟨oL, nm, hpr, hpL⟩ := ys_sleep F hp I1
  have o1 := o.kept kp
  refine sg_at (sg_yield g.split fun p => ?_)
  refine ⟨_, _, _, _, _, _, _, x, H1, (G.L, oL) :: pins, [], rfl, .inl ?_, r1, hφ, aft_of F I1 sm o1.at_ o1.size o1.sleep, o1.gc, (fun q hq => by
    obtain ⟨a1, a2, a3, a4, a5⟩ := hpr q hq
    refine ⟨a1, a2, a3, a4, a5, fun r hr => ?_⟩
    rcases List.mem_cons.mp hq with z | z
    · rw [z]
      have q := (I1.pin r (List.mem_append_left _ (List.mem_cons_of_mem _ hr))).2.2.1
      have q' : r.1 ≠ env.locals := q
      rw [F.loc] at q'; exact q'
    · exact o1.apart r hr q z), fun q hq => absurd hq (by simp), .inl ?_, fun W2 P => ?_⟩
  · show (!(gd false || fs.any Frame.guarded)) = true
    rw [g.gd, g.guard]; rfl
  · show (!(gd false || fs.any Frame.guarded)) = true
    rw [g.gd, g.guard]; rfl
  · have I2 : InvL (gX G N env W2) pins σ W2.H W2.s := inv_at F P List.mem_cons_self nm fun p hpp => ⟨List.mem_cons_of_mem _ hpp, hpL p hpp, (hp p hpp).1, (hpr p (List.mem_cons_of_mem _ hpp)).2.2.2.2⟩
    exact k.ok rs' W2 (W2.s.setGen G.g .running) .next ⟨σ, W2.H, I2, hn W2.H P.tups⟩ (segOk_woken F.young P fun q hq => List.mem_cons_of_mem _ hq)
end
end TF
/-! ## TfFor -/
/-! a generator's own loop over plain things -/
namespace TF
open PySem PySem.Spec PySem.W PyProof.Rows L2
section
variable {G : GD} {N : List Str} {env : Env} {pos : Pos}
theorem gcode_loop {c c' : Code} {fs : List Frame} {gd : Bool → Bool} {k : Result → Sem PySem.Fin} {l kp : List Value} {p : Pos} (g : GCode G env c fs gd) (hw : c'.weight = 0) (hu : c'.cUnits = 0) :
    GCode G env c' (.ret k none (gd false) l c p kp :: fs) (fun b => id (id b)) where
  over := (GenW.over_loop hw hu).trans g.over
  split := by
    show (splitAtGen fs).map _ = none
    rw [g.split]; rfl
  guard := by
    show (gd false || fs.any Frame.guarded) = false
    rw [g.gd, g.guard]; rfl
  gd := rfl
def tyFor (wi : TI) (g : TG) (tb : TY) : TY := fun D rest Hw σ H => wi σ H fun J H1 => ∃ W : Nat → Nat → List YP → Hp → L2.St → Hp → Prop, (∃ m, W 0 m rest Hw σ H1) ∧ ∀ i m rest Hw σ H, W i m rest Hw σ H →
  (J.stop i H ∧ D.nx rest Hw σ H) ∨ (J.go i H ∧ ∃ N : List YP → Hp → L2.St → Hp → Prop, (∀ rest' Hw' σ' H', N rest' Hw' σ' H' → ∃ m', m' < m ∧ W (i + 1) m' rest' Hw' σ' H') ∧
    ∀ x H', J.yld i H x H' → g x σ H' fun σ2 H2 => tb { D with nx := N, ct := N, bk := D.nx } rest Hw σ2 H2)
theorem ys_for {tg iter : Expr} {body : List Stmt} {wi : TI} {g : TG} {tb : TY} (F : GFix G N env) (hi : ∀ W, PI (gX G N env W) tg iter wi) (hg : ∀ W, PG (gX G N env W) tg g) (hb : YSs G N env body tb)
    (hs : ∀ x, foldedSetIterable iter env x = pure x := by intro _; rfl) : YS G N env (.For tg iter body [] pos) (tyFor wi g tb) := by
  refine ⟨fun pins W rest c fs K J gd lv s σ H D gc hp k I o ht => ?_⟩
  rw [exec_For]
  refine sgw_bind (WL.standAt (sgw_bind ?_))
  rw [gc.over]
  refine ((piL_of (gX_calm G N env W) (hi W)).run pins s σ H _ I ht).mono (fun v s1 h1 => ?_) fun _ _ q => q.elim
  rw [hs v]
  refine sgw_bind (WL.pure (sgw_bind (WL.standAt (sgw_bind (WL.holding ?_)))))
  rw [gc.over]
  refine h1.mono (fun itv s2 h2 => ?_) fun _ _ q => q.elim
  obtain ⟨it, fp, tn, J', H2, e, I2, T, st2, f2, ⟨Wi, ⟨m0, w0⟩, turn⟩, k2⟩ := h2
  subst e
  have o2 := o.kept k2
  have fpL : ∀ b ∈ fp, G.L ≤ b ∧ b ≠ G.a := fun b hb => by
    obtain ⟨f0, f1, f3, f4, f5, f6⟩ := f2 b hb
    refine ⟨?_, fun z => f6 (G.a, W.own) (List.mem_append_left _ List.mem_cons_self) z.symm⟩
    rcases f4 with z | z
    · exact absurd (show b ∈ ([] : List Addr) from z) (by simp)
    · have e := cutH_size (h := W.s.heap) o.low
      have z' : (cutH W.s.heap G.L).objs.size ≤ b := z
      rw [e] at z'; exact z'
  have stat : ∀ (W : Wk) {H' : Hp}, G.L ≤ W.s.heap.objs.size → (∀ p ∈ W.pin, ∀ b ∈ fp, p.1 ≠ b) → (∀ b ∈ fp, H' b = none) → ∀ b ∈ fp, FpOk (gX G N env W) pins H' b := fun W H' hl hap hn b hb => by
    obtain ⟨f0, f1, f3, f4, f5, f6⟩ := f2 b hb
    obtain ⟨y1, y2⟩ := fpL b hb
    refine ⟨hn b hb, f1, f3, .inr ?_, f5, fun p hpp => ?_⟩
    · show (cutH W.s.heap G.L).objs.size ≤ b
      rw [cutH_size hl]; exact y1
    · rcases List.mem_append.mp hpp with z | z
      · rcases List.mem_cons.mp z with z | z
        · rw [z]; exact Ne.symm y2
        · exact hap p z b hb
      · exact f6 p (List.mem_append_right _ z)
  unfold runOwn
  refine sg_call fun p => ?_
  have gl := fun (kk : Result → Sem PySem.Fin) => gcode_loop (k := kk) (c' := .forLoop tg (.ref it) body [] env) (l := lv []) (kp := []) (p := p) gc rfl rfl
  have loop : ∀ (m : Nat) (W : Wk) (rest : List YP) (s : Shared) (i : Nat) (σ : L2.St) (H : Hp), Wi i m rest W.H σ H → SegOk G pins W s [] → (∀ p ∈ W.pin, ∀ b ∈ fp, p.1 ≠ b) → InvL (gX G N env W) pins σ H s → tn i s.heap → (∀ b ∈ fp, H b = none) →
      SgL (model G.P G.w) G.A (Trn G rest W) (.forLoop tg (.ref it) body [] env) ((model G.P G.w).den (.forLoop tg (.ref it) body [] env))
        (.ret (fun r => ((match r with | .ok f => (.pure f : Sem Flow) | .error e => .raise e).onRaise fun (x : Value) => do
          if (← field x 1) == Value.none then unsupported "frame.own-activation:exception-without-traceback"
          setFlight x env.frame).wrap K J gd lv) none (gd false) (lv []) c p [] :: fs) s := by
    intro m
    induction m using Nat.strongRecOn with
    | ind m ih =>
      intro W rest s3 i σ3 H3 w3 o3 ap3 I3 st3 fr3
      show SgL _ _ _ _ ((forTurn tg (.ref it) body [] env).onRaise (fun x => do noteFrame x env; theTreesLotGoes x)) _ s3
      rw [Sem.onRaise_eq_wrap]
      unfold forTurn
      refine sgw_bind (WL.standAt (sgw_bind (wl_wrapped ?_)))
      rw [(gl _).over]
      rcases turn i m rest W.H σ3 H3 w3 with ⟨stop, qn⟩ | ⟨go, Nx, hN, step⟩
      · refine (lift (E := NoX) (R := fun r y => r = none ∧ InvL (gX G N env W) pins σ3 H3 y ∧ GKept s3 y) (T.done (gX G N env W) rfl rfl rfl rfl i pins (scrub s3) σ3 H3 NoX I3.scrub (stat W o3.low ap3 fr3) st3 stop) (fun _ _ q => q)
          fun r z ⟨hr, I4⟩ => ⟨I4.bare, fun y e k => ⟨hr, by subst e; exact InvL.ofR I4, k⟩⟩).mono (fun r y ⟨hr, I4, k4⟩ => ?_) fun _ _ q => q.elim
        subst hr
        refine sg_again rfl ?_
        show SgL _ _ _ _ ((do return PySem.Fin.done (← (execs [] env).onRaise (fun x => do noteFrame x env; theTreesLotGoes x))) : Sem PySem.Fin) _ y
        refine sg_leaf (.ok .next) ?_
        exact k.ok rest W y .next ⟨σ3, H3, I4, qn⟩ (o3.kept k4)
      · refine ((WL.asleep (WL.of (T.item (gX G N env W) rfl rfl rfl rfl i pins (scrub s3) σ3 H3 NoX I3.scrub (stat W o3.low ap3 fr3) st3 go))).mono (fun r y ⟨z, ⟨u, hr, h4⟩, j, hz, e⟩ => ?_) fun x y ⟨z, q⟩ => q.elim)
        subst hr; subst e
        refine sgw_bind ?_
        rw [(gl _).over]
        refine (WL.rst j (WL.of h4)).mono (fun _ y ⟨z', ⟨x, H5, I5, r5, y5, st5, fr5⟩, j', hz', e⟩ => ?_) fun x y ⟨z', q⟩ => q.elim
        subst e
        have k5 := kept_rst j' I5.bare (Nat.le_trans hz hz')
        have I5' := InvL.ofR (Y := sleepers s3) (I5.pinned (stat W o3.low ap3 fr5) (T.obj _ _ st5))
        refine sgw_bind ?_
        rw [(gl _).over]
        refine (targetL (gX_calm G N env W) (hg W) I5' r5 (step x H5 y5)).mono (fun _ s6 ⟨σ6, H6, I6, q6, k6⟩ => ?_) fun _ _ q => q.elim
        rw [Sem.bind_eq_wrap', Sem.wrap_wrap]
        have hp' : ∀ q ∈ pins ++ pinsAt fp z'.heap, G.L ≤ q.1 ∧ q.1 ≠ G.a := fun q hq => by
          rcases List.mem_append.mp hq with z | z
          · exact hp q z
          · exact fpL _ (of_pinsAt z).1
        have app : ∀ {s6 : Shared}, SegOk G pins W s6 [] → SegOk G (pins ++ pinsAt fp z'.heap) W s6 [] := fun o6 => ⟨o6.gc, o6.size, o6.inb, o6.low, o6.at_, (fun p hpp q hq => by
          rcases List.mem_append.mp hq with z | z
          · exact o6.apart p hpp q z
          · exact ap3 p hpp _ (of_pinsAt z).1), o6.sleep, o6.chD⟩
        refine hb.run _ W rest _ _ _ _ _ _ s6 σ6 H6 { D with nx := Nx, ct := Nx, bk := D.nx } (gl _) hp' ⟨fun rs2 W2 s7 f q7 o7 => ?_⟩ I6 (app ((o3.kept k5).kept k6)) q6
        have o8 : SegOk G pins W2 s7 [] := ⟨o7.gc, o7.size, o7.inb, o7.low, o7.at_, (fun p hpp q hq => o7.apart p hpp q (List.mem_append_left _ hq)), o7.sleep, o7.chD⟩
        have ap8 : ∀ p ∈ W2.pin, ∀ b ∈ fp, p.1 ≠ b := fun p hpp b hb => by
          obtain ⟨o, e, d⟩ := T.obj _ _ st5 b hb
          exact o7.apart p hpp (b, o) (List.mem_append_right _ (mem_pinsAt hb e))
        have again : ∀ {σ7 : L2.St} {H7 : Hp}, InvL (gX G N env W2) (pins ++ pinsAt fp z'.heap) σ7 H7 s7 → Nx rs2 W2.H σ7 H7 → ∃ m', m' < m ∧ Wi (i + 1) m' rs2 W2.H σ7 H7 ∧ InvL (gX G N env W2) pins σ7 H7 s7 ∧ tn (i + 1) s7.heap ∧ ∀ b ∈ fp, H7 b = none := fun {σ7 H7} I7 n7 => by
          obtain ⟨m', hm, w7⟩ := hN rs2 W2.H σ7 H7 n7
          refine ⟨m', hm, w7, I7.unpinned, T.keep _ _ _ st5 fun b hb o e => (I7.pin (b, o) (List.mem_append_right _ (List.mem_append_right _ (mem_pinsAt hb e)))).1, fun b hb => ?_⟩
          obtain ⟨o, e, d⟩ := T.obj _ _ st5 b hb
          exact (I7.pin (b, o) (List.mem_append_right _ (List.mem_append_right _ (mem_pinsAt hb e)))).2.1
        cases f with
        | next =>
          obtain ⟨σ7, H7, I7, n7⟩ := q7
          obtain ⟨m', hm, w7, I8, st7, fr7⟩ := again I7 n7
          exact sg_again rfl (ih m' hm W2 rs2 s7 (i + 1) σ7 H7 w7 o8 ap8 I8 st7 fr7)
        | cont =>
          obtain ⟨σ7, H7, I7, n7⟩ := q7
          obtain ⟨m', hm, w7, I8, st7, fr7⟩ := again I7 n7
          exact sg_again rfl (ih m' hm W2 rs2 s7 (i + 1) σ7 H7 w7 o8 ap8 I8 st7 fr7)
        | brk =>
          obtain ⟨σ7, H7, I7, n7⟩ := q7
          exact sg_leaf (.ok .next) (k.ok rs2 W2 s7 .next ⟨σ7, H7, I7.unpinned, n7⟩ o8)
        | ret v =>
          obtain ⟨x7, σ7, H7, I7, r7, n7⟩ := q7
          exact sg_leaf (.ok (.ret v)) (k.ok rs2 W2 s7 (.ret v) ⟨x7, σ7, H7, I7.unpinned, r7, n7⟩ o8)
  exact loop m0 W rest s2 0 σ H2 w0 o2 (fun p hpp b hb => (f2 b hb).2.2.2.2.2 p (List.mem_append_left _ (List.mem_cons_of_mem _ hpp))) I2 st2 fun b hb => (f2 b hb).1
end
end TF
/-! ## TfFnG -/
/-! a generator def's promise -/
namespace TF
open PySem PySem.Spec PySem.W PyProof.Rows L2
/-- a generator that has not begun: whoever wakes it gets the items -/
def MadeG (P : Program) (w : World) (K : PySem.W.Frag) (mg : Str → Option Value) (base : Heap) (k : Nat) (outer : List Env) (H : Hp) (s : Shared) (items : List YP) (u : Value) (y : Shared) : Prop :=
  ∃ (a : Addr) (g : Nat) (L : Addr) (c : Code) (own oL : Obj), u = .ref a ∧ s.heap.objs.size ≤ L ∧ L < a ∧ y.heap.get? a = some own ∧ GenObj own g 0 ∧ y.gens[g]? = some (.fresh c) ∧ s.gens.size ≤ g ∧
    y.heap.get? L = some oL ∧ (∀ v, oL.data ≠ .cell v) ∧ y.os = s.os ∧ (∀ b o, s.heap.get? b = some o → y.heap.get? b = some o) ∧ GKept s y ∧
    ∀ A, Room k A → A.frames = some outer → ∀ W2, Pre ⟨P, w, K, mg, base, A, outer, L, a, g⟩ W2 [(L, oL)] [] H → WakesTo (model P w) A (.fresh c) (W2.s.setGen g .running) (Trn ⟨P, w, K, mg, base, A, outer, L, a, g⟩ items W2)
abbrev SpY := List V → Hp → List YP → Prop
structure FnG (P : Program) (w : World) (K : PySem.W.Frag) (mg : Str → Option Value) (base : Heap) (k : Nat) (f : Addr) (fd : FuncData) (ps : List Str) (sp : SpY) : Prop where
  len : ∀ vs H items, sp vs H items → vs.length = ps.length
  run : ∀ (A : Around) (outer : List Env) (s : Shared) (H : Hp) (args : Args) (us : List Value) (vs : List V) (items : List YP), Room k A → Env0 P w K mg base A outer (nog s) H → BindsTo s fd args (ps.zip us) → Vals vs us → sp vs H items →
    CL (model P w) A (.call (.ref f) args) (fun r y => match r with | .ok (.ret u) => MadeG P w K mg base k outer H s items u y | _ => False) s
/-- what a generator def's body has to come to -/
def endGE : GE := { nx := fun rest Hw _ H => rest = [] ∧ Same Hw H, rt := fun rest Hw v H => v = .non ∧ rest = [] ∧ Same Hw H }
theorem sg_func {P : Program} {w : World} {A : Around} {Φ : End → Shared → Prop} {fs : List Frame} {s : Shared} {body : List Stmt} {env : Env}
    (h : SgL (model P w) A Φ (.func body env) ((execs body env).wrap (fun f => .pure (.done (.ret (match f with | .ret v => v | _ => .none)))) (fun e => (leaving env e).wrap (fun _ => .raise e) .raise id id) id id) fs s) :
    SgL (model P w) A Φ (.func body env) ((model P w).den (.func body env)) fs s := by
  show SgL _ A Φ _ (.point [] fun _ => ((execs body env).onRaise (leaving env)) >>= _) fs s
  refine sg_point ?_
  rw [Sem.onRaise_eq_wrap, Sem.bind_eq_wrap', Sem.wrap_wrap]
  rw [Sem.wrap_congr (execs body env) _ _ (K' := fun f => .pure (.done (.ret (match f with | .ret v => v | _ => .none)))) (H' := fun e => (leaving env e).wrap (fun _ => .raise e) .raise id id) (fun f => by cases f <;> rfl) (fun e => by rw [Sem.bind_eq_wrap, Sem.wrap_wrap]; rfl)]
  exact h
theorem cells_none : ∀ (l : List (Str × NameKind)) (n : Nat), l.all (fun y => y.2 != .cell && y.2 != .free) = true → cellsFrom n l [] = []
  | [], _, _ => rfl
  | (x, kd) :: r, n, h => by
    rw [List.all_cons, Bool.and_eq_true, Bool.and_eq_true] at h
    have h1 : kd ≠ .cell := by simpa using h.1.1
    have : (kd == NameKind.cell) = false := by simpa using h1
    unfold cellsFrom
    rw [this]
    exact cells_none r n h.2
theorem names_plain {l : List (Str × NameKind)} (h : l.all (fun y => y.2 != .cell && y.2 != .free) = true) (x : Str) : l.lookup x ≠ some .cell ∧ l.lookup x ≠ some .free := by
  have q : ∀ kd, l.lookup x = some kd → kd ≠ .cell ∧ kd ≠ .free := fun kd e => by
    have := List.all_eq_true.mp h _ (PySem.mem_of_lookup e)
    simpa using this
  exact ⟨fun e => (q _ e).1 rfl, fun e => (q _ e).2 rfl⟩
theorem fnG_of {P : Program} {w : World} {K : PySem.W.Frag} {mg : Str → Option Value} {base : Heap} {k : Nat} {f : Addr} {name qual : Str} {params : Arguments} {body : List Stmt} {scope : Scope} {dV kV doc pm cdv ct oc : Value} {an od : Option Addr}
    {osl : Array (Option Value)} {N ps : List Str} {sp : SpY} (lk : K.lookup f = some ⟨oc, od, .func (PySem.W.fnOf name qual params body scope dV kV doc pm an cdv ct), osl⟩) (hcd : PySem.W.codeIn K cdv qual = true) (S : GScope N ps scope)
    (hk : scope.names.all (fun y => y.2 != .cell && y.2 != .free) = true)
    (len : ∀ vs H items, sp vs H items → vs.length = ps.length)
    (hbody : ∀ (A : Around) (outer : List Env) (L a : Addr) (g : Nat) (H : Hp) (vs : List V) (items : List YP), Room k (A.deeper (envOfC qual scope L f cdv)) → A.handled = none → GFix ⟨P, w, K, mg, base, A, outer, L, a, g⟩ N (envOfC qual scope L f cdv) → sp vs H items →
      ∃ t, YSs ⟨P, w, K, mg, base, A, outer, L, a, g⟩ N (envOfC qual scope L f cdv) body t ∧ ∀ Hw, TupKeep H Hw → t endGE items Hw (start N vs) Hw) :
    FnG P w K mg base (k + 1) f (PySem.W.fnOf name qual params body scope dV kV doc pm an cdv ct) ps sp := by
  refine ⟨len, fun A outer s H args us vs items hr e0 hb r hsp => ?_⟩
  have hl := len _ _ _ hsp
  have KX : K.In s.heap := e0.mod.kin.keeps fun b o e => (e0.bs b o e).1
  have lim : s.heap.NoLimit := e0.mod.nolimit.keeps fun b o e => (e0.bs b o e).1
  have hkind : ∀ y ∈ ps.zip us, scope.names.lookup y.1 = some .local ∨ (scope.names.lookup y.1 = some .cell ∧ ((cellsFrom (s.heap.objs.size + 1) scope.names []).lookup y.1).isSome = true) := fun ⟨n, v⟩ hy => by
    rcases S.par n (List.of_mem_zip hy).1 with q | q
    · exact .inl q
    · exact absurd q (names_plain hk n).1
  refine CL.of (codeAny_call_generator hr.depth (KX _ _ lk) rfl S.co S.gen rfl (PySem.W.codeRec_of KX hcd) (hb _ _ _ _ ?_))
  refine wpAny_newFunctionEnv_cells S.kind hkind fun env he s1 x => ?_
  subst he
  refine ⟨lim.keeps x.toInCall.keep, ?_⟩
  obtain ⟨h1, tk, es1, hk1⟩ := x.done
  have gen1 : s1.gens = s.gens := by rw [es1]
  have lt1 : s.heap.objs.size < s1.heap.objs.size := x.toInCall.ns.lt
  have x' : InCallC (nog s) s.heap.objs.size (bindL (envOfC qual scope s.heap.objs.size f cdv).kindOf (ps.zip us) fun _ => none) (cellsFrom (s.heap.objs.size + 1) scope.names []) (bindC (envOfC qual scope s.heap.objs.size f cdv).kindOf (ps.zip us) fun _ => none) (nog s1) :=
    ⟨⟨⟨h1, tk, by rw [es1]; rfl⟩, x.toInCall.ns, x.toInCall.keep, x.toInCall.fresh⟩, x.cell, x.apart, x.above⟩
  have I1 : Inv (gcxOf P w K mg base N qual scope f cdv A outer (nog s) H (fun _ _ _ => False) []) [] (start N vs) H (nog s1) := inv_startG S hr.hd e0 hl r x'
  obtain ⟨m, hn, hnm⟩ := I1.loc
  obtain ⟨oL, hoL, hcL, hmL⟩ := ns_of hn
  have hoL' : s1.heap.get? s.heap.objs.size = some oL := hoL
  have nm : Names N (envOfC qual scope s.heap.objs.size f cdv) (start N vs) oL := by
    refine ⟨I1.len, ⟨m, hmL, fun i x v a1 a2 a3 => ?_⟩, hcL⟩
    obtain ⟨u, ru, l⟩ := hnm i x v a1 a2 a3
    rcases l with ⟨kd, e⟩ | ⟨kd, _⟩
    · exact ⟨u, ru, kd, e⟩
    · rcases kd with kd | kd
      · exact absurd kd (names_plain hk x).1
      · exact absurd kd (names_plain hk x).2
  have main : ∀ (go : Obj) (tk2 : Nat), GenObj go s1.gens.size 0 → (∀ h : Heap, (h.push go).get? h.objs.size = some go) →
      MadeG P w K mg base (k + 1) outer H s items (.ref s1.heap.objs.size) { s1 with gens := s1.gens.push (.fresh (.func body (envOfC qual scope s.heap.objs.size f cdv))), toks := tk2, heap := s1.heap.push go } := by
    intro go tk2 hgo hgp
    refine ⟨s1.heap.objs.size, s1.gens.size, s.heap.objs.size, _, go, oL, rfl, Nat.le_refl _, lt1, hgp _, hgo, Array.getElem?_push_size .., by rw [gen1]; exact Nat.le_refl _, Heap.get?_push_of_some _ hoL', hcL, by rw [es1],
      fun b o e => Heap.get?_push_of_some _ (x.toInCall.keep b o e), ⟨fun i y e q => ?_, fun i y e => ?_, ?_⟩, ?_⟩
    · show (s1.gens.push _)[i]? = some y
      rw [gen1, Array.getElem?_push_lt (Array.getElem?_eq_some_iff.mp e).1]
      exact (Array.getElem?_eq_getElem _).symm.trans e
    · have e' : (s1.gens.push (.fresh (.func body (envOfC qual scope s.heap.objs.size f cdv))))[i]? = some y := e
      rw [gen1, Array.getElem?_push] at e'
      split at e'
      · cases e'; exact .inl rfl
      · exact .inr e'
    · show s.gens.size ≤ (s1.gens.push _).size
      rw [gen1, Array.size_push]; exact Nat.le_succ _
    intro A2 hr2 hf2 W2 pre
    have F : GFix ⟨P, w, K, mg, base, A2, outer, s.heap.objs.size, s1.heap.objs.size, s1.gens.size⟩ N (envOfC qual scope s.heap.objs.size f cdv) := by
      refine ⟨rfl, S.kind, rfl, rfl, rfl, cells_none _ _ hk, fun x => names_plain hk x, e0.bsz, fun b hb => ?_, Nat.ne_of_gt lt1, Nat.le_of_lt lt1, hr2.hd⟩
      obtain ⟨_, o, ho, _⟩ := e0.funs.mem hb
      exact Heap.lt_size ho
    obtain ⟨t, ht, q⟩ := hbody A2 outer s.heap.objs.size s1.heap.objs.size s1.gens.size H vs items (hr2.deeper _) hr2.hd F hsp
    have I2 : InvL (gX ⟨P, w, K, mg, base, A2, outer, s.heap.objs.size, s1.heap.objs.size, s1.gens.size⟩ N (envOfC qual scope s.heap.objs.size f cdv) W2) [] (start N vs) W2.H W2.s := inv_at F pre (List.mem_singleton.mpr rfl) nm (fun p hp => absurd hp (by simp))
    show SgL (model P w) A2 _ (.func body (envOfC qual scope s.heap.objs.size f cdv)) ((model P w).den (.func body (envOfC qual scope s.heap.objs.size f cdv))) [] _
    refine sg_func ?_
    refine ht.run [] W2 items _ [] _ _ id id _ (start N vs) W2.H endGE ⟨GenW.over_func, rfl, rfl, rfl⟩ (fun p hp => absurd hp (by simp)) ⟨fun rest W s' fl hs so => ?_⟩ I2 (segOk_woken F.young pre fun q hq => absurd hq (by simp)) (q W2.H pre.tups)
    have fin : ∀ {σ' : L2.St} {H' : Hp}, InvL (gX ⟨P, w, K, mg, base, A2, outer, s.heap.objs.size, s1.heap.objs.size, s1.gens.size⟩ N (envOfC qual scope s.heap.objs.size f cdv) W) [] σ' H' s' → rest = [] → Same W.H H' →
        Trn ⟨P, w, K, mg, base, A2, outer, s.heap.objs.size, s1.heap.objs.size, s1.gens.size⟩ rest W (.ret (.ok (.ret .none))) s' := fun {σ' H'} I' er sm => by
      subst er
      exact ⟨⟨_, rfl, .inl rfl⟩, H', aft_of F I' sm so.at_ so.size so.sleep, so.gc⟩
    cases fl with
    | next =>
      obtain ⟨σ', H', I', e1, e2⟩ := hs
      exact sg_end (.ok (.ret .none)) (fin I' e1 e2)
    | brk => obtain ⟨_, _, _, q⟩ := hs; exact False.elim q
    | cont => obtain ⟨_, _, _, q⟩ := hs; exact False.elim q
    | ret u =>
      obtain ⟨v, σ', H', I', rv, e0, e1, e2⟩ := hs
      subst e0
      have eu : u = Value.none := rv
      subst eu
      exact sg_end (.ok (.ret .none)) (fin I' e1 e2)
  exact main _ _ ⟨rfl, ⟨_, _, rfl⟩, .inl ⟨rfl, rfl⟩⟩ fun h => Heap.get?_push_size _ rfl
end TF
/-! ## TfYf -/
/-! yield from a generator -/
namespace TF
open PySem PySem.Spec PySem.W PyProof.Rows L2
theorem close_gen : ∃ r, typeLookup (.type "generator") "close" = pure (some r) := by
  rw [typeLookup_type, builtinLookup_eq_fast]
  have h : (match fastLookup "generator" "close" with | some (some _) => true | _ => false) = true := by decide +kernel
  cases e : fastLookup "generator" "close" with
  | none => rw [e] at h; cases h
  | some r =>
    cases r with
    | none => rw [e] at h; cases h
    | some r => exact ⟨r, rfl⟩
def yfC (a : Addr) : Code := .builtin "proto.yield_from" ⟨[.ref a, .bool false, .none], []⟩
theorem den_yfC {P : Program} {w : World} {a : Addr} : (model P w).den (yfC a) = Builtin.«proto.yield_from» ⟨[.ref a, .bool false, .none], []⟩ := by
  show (match entryFor table "proto.yield_from" with | some b => b ⟨[.ref a, .bool false, .none], []⟩ | none => unsupported ((withoutEnding? "proto.yield_from" "#data").getD "proto.yield_from")) = _
  rw [entry_yf]
/-- a generator that we hold: asleep or not begun, its chain below it, what it will hand out -/
structure Held (C : GD) (cs : List YP) (gs : GenState) (own : Obj) (priv : List (Addr × Obj)) (sus : List (Nat × GenState)) (Hy H : Hp) (s : Shared) : Prop where
  st : s.gens[C.g]? = some gs
  ownAt : s.heap.get? C.a = some own
  obj : GenObj own C.g 0
  free : H C.a = none
  prv : ∀ p ∈ priv, s.heap.get? p.1 = some p.2 ∧ H p.1 = none ∧ C.L ≤ p.1 ∧ p.1 ≠ C.a ∧ ∀ v, p.2.data ≠ .cell v
  slp : ∀ q ∈ sus, s.gens[q.1]? = some q.2 ∧ IsSusp q.2 = true ∧ LoudOk priv q.2 ∧ C.g < q.1
  tups : TupKeep Hy H
  wake : ∀ W2, Pre C W2 priv sus Hy → WakesTo (model C.P C.w) C.A gs (W2.s.setGen C.g .running) (Trn C cs W2)
theorem Held.lt {C : GD} {cs : List YP} {gs : GenState} {own : Obj} {priv : List (Addr × Obj)} {sus : List (Nat × GenState)} {Hy H : Hp} {s : Shared} (h : Held C cs gs own priv sus Hy H s) : C.g < s.gens.size := (Array.getElem?_eq_some_iff.mp h.st).1
theorem Held.pre {C : GD} {cs : List YP} {gs : GenState} {own : Obj} {priv : List (Addr × Obj)} {sus : List (Nat × GenState)} {Hy H : Hp} {s : Shared} {pin : List (Addr × Obj)} (h : Held C cs gs own priv sus Hy H s)
    (e : Env0 C.P C.w C.K C.mg C.base C.A C.outer (nog s) H) (hp : ∀ p ∈ pin, s.heap.get? p.1 = some p.2 ∧ H p.1 = none ∧ p.1 ∉ frs C.outer ∧ ∀ v, p.2.data ≠ .cell v) (ha : ∀ p ∈ pin, p.1 ≠ C.a ∧ ∀ q ∈ priv, p.1 ≠ q.1) : Pre C ⟨s, H, own, sus.map (·.1), pin⟩ priv sus Hy :=
  ⟨e, h.ownAt, h.obj, h.free, fun p hp => ⟨(h.prv p hp).1, (h.prv p hp).2.1⟩, fun q hq => (h.slp q hq).1, h.tups, rfl, h.lt, fun p hq => ⟨(hp p hq).1, (hp p hq).2.1, (ha p hq).1, (hp p hq).2.2.1, (hp p hq).2.2.2, (ha p hq).2⟩⟩
theorem LoudOk.mono {priv priv' : List (Addr × Obj)} {x : GenState} (h : LoudOk priv x) (hs : ∀ p ∈ priv, p ∈ priv') : LoudOk priv' x := by
  rcases h with h | ⟨k, l, a, more, kw, p, fs, o, n, e, g, m, q⟩
  · exact .inl h
  · exact .inr ⟨k, l, a, more, kw, p, fs, o, n, e, g, hs _ m, q⟩
theorem MadeG.held {P : Program} {w : World} {K : PySem.W.Frag} {mg : Str → Option Value} {base : Heap} {k : Nat} {outer : List Env} {H : Hp} {s y : Shared} {items : List YP} {u : Value} (m : MadeG P w K mg base k outer H s items u y) (hok : HOk P w H s.heap) :
    ∃ (a : Addr) (g : Nat) (L : Addr) (c : Code) (own oL : Obj), u = .ref a ∧ s.heap.objs.size ≤ L ∧ L < a ∧ s.gens.size ≤ g ∧ y.os = s.os ∧ (∀ b o, s.heap.get? b = some o → y.heap.get? b = some o) ∧ GKept s y ∧
      ∀ A, Room k A → A.frames = some outer → Held ⟨P, w, K, mg, base, A, outer, L, a, g⟩ items (.fresh c) own [(L, oL)] [] H H y := by
  obtain ⟨a, g, L, c, own, oL, e1, e2, e3, e4, e5, e6, e7, e8, e9, e10, e11, e12, e13⟩ := m
  refine ⟨a, g, L, c, own, oL, e1, e2, e3, e7, e10, e11, e12, fun A hr hf => ⟨e6, e4, e5, hok.fresh (Nat.le_of_lt (Nat.lt_of_le_of_lt e2 e3)), fun p hp => ?_, fun q hq => absurd hq (by simp), TupKeep.refl H, e13 A hr hf⟩⟩
  rw [List.mem_singleton.mp hp]
  exact ⟨e8, hok.fresh e2, Nat.le_refl _, Nat.ne_of_lt e3, e9⟩
section
variable {G : GD} {N : List Str} {env : Env}
/-- the parent's facts behind a child's turn -/
theorem inv_child {C : GD} {W Wc : Wk} {pins : List (Addr × Obj)} {σ : L2.St} {H H' : Hp} {y : Shared} (F : GFix G N env) (I : InvL (gX G N env W) pins σ H Wc.s) (o : G.L ≤ W.s.heap.objs.size) (hH : Wc.H = H) (hpn : Wc.pin = W.pin) (ho : C.outer = env :: G.outer) (hP : C.P = G.P) (hw : C.w = G.w)
    (hL : G.L < C.L) (ha : G.a < C.L) (hpins : ∀ p ∈ pins, p.1 < C.L) (A : Aft C Wc H' y) : InvL (gX G N env W) pins σ H' y := by
  refine Inv.call' (s := nog Wc.s) (s' := nog y) (ch := young C.L Wc) I A.os ?_ ?_ AllBare.empty fun b hb => ?_
  · have := A.un
    rw [ho, hH] at this
    exact this
  · have := A.hok
    rw [hP, hw] at this
    exact this
  · obtain ⟨_, hb, hnp⟩ := mem_young.mp hb
    rw [hpn] at hnp
    refine ⟨.inr ?_, ?_, fun x c e => ?_, fun p hp => ?_⟩
    · show (cutH W.s.heap G.L).objs.size ≤ b
      rw [cutH_size o]
      exact Nat.le_trans (Nat.le_of_lt hL) hb
    · show b ≠ env.locals
      rw [F.loc]
      exact Nat.ne_of_gt (Nat.lt_of_lt_of_le hL hb)
    · have e' : env.cells.lookup x = some c := e
      rw [F.cells] at e'; cases e'
    · rcases List.mem_append.mp hp with z | z
      · rcases List.mem_cons.mp z with z | z
        · rw [z]
          exact Nat.ne_of_lt (Nat.lt_of_lt_of_le ha hb)
        · exact fun e => hnp (List.mem_map.mpr ⟨p, z, e⟩)
      · exact Nat.ne_of_lt (Nat.lt_of_lt_of_le (hpins p z) hb)
/-- the table -/
theorem gc_child {W Wc : Wk} {gc : Nat} {gs x : GenState} {sus sus' : List (Nat × GenState)} {y : Shared} (hs : GC W Wc.s ((gc, gs) :: sus)) (hD : Wc.D = sus.map (·.1)) (h : GC Wc y sus') (hlt : gc < y.gens.size) : GC W (y.setGen gc x) ((gc, x) :: sus') := fun i z e => by
  have e' : (y.gens.setIfInBounds gc x)[i]? = some z := e
  by_cases hi : gc = i
  · subst hi
    rw [Array.getElem?_setIfInBounds_self_of_lt hlt] at e'
    cases e'
    exact .inr (.inr List.mem_cons_self)
  · rw [Array.getElem?_setIfInBounds_ne hi] at e'
    rcases h i z e' with q | ⟨q, nd⟩ | q
    · exact .inl q
    · rcases hs i z q with r | r | r
      · exact .inl r
      · exact .inr (.inl r)
      · rcases List.mem_cons.mp r with r | r
        · exact absurd (congrArg Prod.fst r).symm hi
        · exact absurd (by rw [hD]; exact List.mem_map.mpr ⟨_, r, rfl⟩) nd
    · exact .inr (.inr (List.mem_cons_of_mem _ q))
/-- the turns of «yield from» -/
theorem seg_yfG {C : GD} {pins : List (Addr × Obj)} {σ : L2.St} {fs : List Frame} {rest' : List YP} {D : Hp → Hp → Prop} (F : GFix G N env) (hp : ∀ p ∈ pins, G.L ≤ p.1 ∧ p.1 ≠ G.a)
    (cA : C.A = (G.A.over (yfC C.a) fs).in1) (ho : C.outer = env :: G.outer) (hP : C.P = G.P) (hw : C.w = G.w) (hK : C.K = G.K) (hmg : C.mg = G.mg) (hbase : C.base = G.base)
    (hL : G.L < C.L) (ha : G.a < C.L) (hpins : ∀ p ∈ pins, p.1 < C.L) (hLa : C.L < C.a) (hg : G.g < C.g)
    (hh : (G.A.over (yfC C.a) fs).handled = none) (hd : (G.A.over (yfC C.a) fs).depth < recursionLimit) (hfr : (G.A.over (yfC C.a) fs).frames = some (env :: G.outer)) (hsp : splitAtGen fs = none) (hgd : fs.any Frame.guarded = false)
    (hend : ∀ W H' y, D W.H H' → InvL (gX G N env W) pins σ H' y → SegOk G pins W y [] → SgL (model G.P G.w) G.A (Trn G rest' W) (yfC C.a) (.pure (.done (.ret .none))) fs y) :
    ∀ (cs : List YP) (W : Wk) (s : Shared) (H Hy H1 : Hp) (gs : GenState) (own : Obj) (priv : List (Addr × Obj)) (sus : List (Nat × GenState)), Held C cs gs own priv sus Hy H s → InvL (gX G N env W) pins σ H s → SegOk G pins W s ((C.g, gs) :: sus) → (∀ p ∈ W.pin, p.1 ≠ C.a ∧ ∀ q ∈ priv, p.1 ≠ q.1) →
      Same W.H H → TupKeep H1 H → (∀ Hw' H2, Same Hw' H2 → TupKeep H1 H2 → D Hw' H2) →
      SgL (model G.P G.w) G.A (Trn G (cs ++ rest') W) (yfC C.a) ((model G.P G.w).den (yfC C.a)) fs s := by
  intro cs
  induction cs with
  | nil =>
    intro W s H Hy H1 gs own priv sus h I o hap sm tk hD
    have hc : C.P = G.P := hP
    rw [den_yfC]
    unfold Builtin.«proto.yield_from»
    try dsimp only
    refine sg_bind (WL.pure ?_)
    try dsimp only
    refine sg_bind (WL.attempt (WL.holding ?_))
    rw [if_neg Bool.false_ne_true, if_pos (show (Value.none == Value.none) = true from rfl)]
    refine WL.bind (WL.rule (WL.bind ?_))
    have e0 : Env0 C.P C.w C.K C.mg C.base C.A C.outer (nog s) H := by
      have q := I.env0
      rw [hP, hw, hK, hmg, hbase, ho]
      exact ⟨by rw [cA]; exact hfr, q.mod, q.bs, q.bsz, q.funs, q.frf, q.hok, q.bare⟩
    have nDs : ∀ i, i < W.s.gens.size → i ∉ W.D → i ∉ sus.map (·.1) ∧ i ≠ C.g := fun i hi nD => by
      have key : ∀ q ∈ (C.g, gs) :: sus, i ≠ q.1 := fun q hq z => by
        rcases o.chD q hq with r | r
        · exact nD (by rw [z]; exact r)
        · rw [z] at hi
          exact Nat.lt_irrefl _ (Nat.lt_of_lt_of_le hi r)
      exact ⟨fun hm => let ⟨q, hq, e⟩ := List.mem_map.mp hm; key q (List.mem_cons_of_mem _ hq) e.symm, key _ List.mem_cons_self⟩
    have frs_ : frs C.outer = G.L :: frs G.outer := by
      rw [ho]
      unfold frs
      rw [List.filterMap_cons, F.frame, F.loc]
    have wk := h.wake _ (h.pre (pin := W.pin) e0 (fun p hq => by
      obtain ⟨a1, a2, a3, a4, a5⟩ := I.pin p (List.mem_append_left _ (List.mem_cons_of_mem _ hq))
      refine ⟨a1, a2, fun z => ?_, a5⟩
      rw [frs_] at z
      rcases List.mem_cons.mp z with z | z
      · have a3' : p.1 ≠ env.locals := a3
        rw [F.loc] at a3'
        exact a3' z
      · exact a4 z) hap)
    rw [hP, hw, cA] at wk
    refine special_next_L (n := 0) hh I.nolimit hd h.ownAt h.obj (by decide) h.st wk (fun r y i => ?_) fun v gd l k c p fs y i => ?_
    · obtain ⟨⟨r', er, hr⟩, H', af, g⟩ := i
      cases er
      refine ⟨hr, fun x h' hS hk => ?_⟩
      obtain ⟨b, ob, vs, rfl, hb, hcl, hdt, h5⟩ := hS
      try dsimp only
      refine sg_bind (WL.of (wpAny_endsTurn hb hcl ?_))
      try dsimp only
      rw [if_pos rfl]
      first
        | refine sg_bind (WL.rule ?_)
        | (rw [if_neg Bool.false_ne_true]; refine sg_bind (WL.rule ?_))
        | (rw [if_neg Bool.false_ne_true]; refine sg_bind (WL.pure ?_); refine sg_bind (WL.rule ?_))
      refine sg_bind (WL.of (wpAny_field hb hdt h5 ?_))
      have slp0 : ∀ (gx : GenState) (i : Nat) (x : GenState), y.gens[i]? = some x → i ≠ C.g → (y.setGen C.g gx).gens[i]? = some x := fun gx i x e ng => by
        show (y.gens.setIfInBounds C.g gx)[i]? = some x
        rw [Array.getElem?_setIfInBounds_ne (Ne.symm ng)]
        exact e
      have I2 := inv_child (Wc := ⟨s, H, own, sus.map (·.1), W.pin⟩) F I o.low rfl rfl ho hP hw hL ha hpins af
      have I3 : InvL (gX G N env W) pins σ H' { y.setGen C.g .finished with heap := h' } := Inv.kept (s := nog y) (t' := y.toks) I2 hk
      have hlt : C.g < y.gens.size := Nat.lt_of_lt_of_le h.lt af.size
      have g2 := gc_child (x := .finished) o.gc rfl g hlt
      refine hend W H' _ (hD _ _ (sm.trans af.same) (tk.trans (TupKeep.of_same af.same))) I3 ⟨fun i z e => ?_, ?_, o.inb, o.low, o.at_, o.apart, fun i x e q nD ng => slp0 .finished i x (af.sleep i x (o.sleep i x e q nD ng) q (nDs i (Array.getElem?_eq_some_iff.mp e).1 nD).1 (nDs i (Array.getElem?_eq_some_iff.mp e).1 nD).2) (nDs i (Array.getElem?_eq_some_iff.mp e).1 nD).2, fun q hq => absurd hq (by simp)⟩
      · rcases g2 i z e with q | q | q
        · exact .inl q
        · exact .inr (.inl q)
        · cases List.mem_singleton.mp q
          exact .inl rfl
      · show W.s.gens.size ≤ (y.setGen C.g .finished).gens.size
        rw [GenW.setGen_size]
        exact Nat.le_trans o.size af.size
    · obtain ⟨⟨r', er, _⟩, _⟩ := i
      cases er
  | cons φ cs ih =>
    intro W s H Hy H1 gs own priv sus h I o hap sm tk hD
    rw [den_yfC]
    unfold Builtin.«proto.yield_from»
    try dsimp only
    refine sg_bind (WL.pure ?_)
    try dsimp only
    refine sg_bind (WL.attempt (WL.holding ?_))
    rw [if_neg Bool.false_ne_true, if_pos (show (Value.none == Value.none) = true from rfl)]
    refine WL.bind (WL.rule (WL.bind ?_))
    have e0 : Env0 C.P C.w C.K C.mg C.base C.A C.outer (nog s) H := by
      have q := I.env0
      rw [hP, hw, hK, hmg, hbase, ho]
      exact ⟨by rw [cA]; exact hfr, q.mod, q.bs, q.bsz, q.funs, q.frf, q.hok, q.bare⟩
    have nDs : ∀ i, i < W.s.gens.size → i ∉ W.D → i ∉ sus.map (·.1) ∧ i ≠ C.g := fun i hi nD => by
      have key : ∀ q ∈ (C.g, gs) :: sus, i ≠ q.1 := fun q hq z => by
        rcases o.chD q hq with r | r
        · exact nD (by rw [z]; exact r)
        · rw [z] at hi
          exact Nat.lt_irrefl _ (Nat.lt_of_lt_of_le hi r)
      exact ⟨fun hm => let ⟨q, hq, e⟩ := List.mem_map.mp hm; key q (List.mem_cons_of_mem _ hq) e.symm, key _ List.mem_cons_self⟩
    have frs_ : frs C.outer = G.L :: frs G.outer := by
      rw [ho]
      unfold frs
      rw [List.filterMap_cons, F.frame, F.loc]
    have wk := h.wake _ (h.pre (pin := W.pin) e0 (fun p hq => by
      obtain ⟨a1, a2, a3, a4, a5⟩ := I.pin p (List.mem_append_left _ (List.mem_cons_of_mem _ hq))
      refine ⟨a1, a2, fun z => ?_, a5⟩
      rw [frs_] at z
      rcases List.mem_cons.mp z with z | z
      · have a3' : p.1 ≠ env.locals := a3
        rw [F.loc] at a3'
        exact a3' z
      · exact a4 z) hap)
    rw [hP, hw, cA] at wk
    refine special_next_L (n := 0) hh I.nolimit hd h.ownAt h.obj (by decide) h.st wk (fun r y i => ?_) fun v gd l k c p fs1 y i hlt => ?_
    · obtain ⟨_, _, _, _, _, _, _, _, _, _, _, er, _⟩ := i
      cases er
    obtain ⟨v', gd', l', k', c', p', fs', x, H', priv', sus', er, ok, rv, hφ, af, g, hpr, hsu, hlo, hwk⟩ := i
    cases er
    refine ⟨ok, WL.pure ?_⟩
    have slp0 : ∀ (gx : GenState) (i : Nat) (x : GenState), y.gens[i]? = some x → i ≠ C.g → (y.setGen C.g gx).gens[i]? = some x := fun gx i x e ng => by
      show (y.gens.setIfInBounds C.g gx)[i]? = some x
      rw [Array.getElem?_setIfInBounds_ne (Ne.symm ng)]
      exact e
    have I2 := inv_child (Wc := ⟨s, H, own, sus.map (·.1), W.pin⟩) F I o.low rfl rfl ho hP hw hL ha hpins af
    have g2 := gc_child (x := (End.susp v gd l k c p fs1).genState) o.gc rfl g hlt
    have hown : (y.setGen C.g (End.susp v gd l k c p fs1).genState).heap.get? C.a = some own := af.own
    dsimp only
    refine sg_bind (WL.of (wpAny_typeOf (T := "generator") ⟨own, hown, h.obj.cls⟩ ?_))
    dsimp only
    obtain ⟨r, hcl⟩ := close_gen
    first
      | (refine sg_bind (WL.of (wpAny_of_eq hcl ?_)); refine sg_bind (WL.pure ?_))
      | refine sg_bind (WL.of (wpAny_bind (wpAny_of_eq hcl (wpAny_pure ?_))))
      | refine sg_bind (WL.of (wpAny_of_eq hcl ?_))
    try dsimp only
    refine sg_bind (WL.of (sleptOver_at hown h.obj fun h' hself hoth hsz => ?_))
    show SgL _ _ _ _ (.yield v true [] _) fs _
    have I3 : InvL (gX G N env W) pins σ H' { y.setGen C.g (End.susp v gd l k c p fs1).genState with heap := h' } := by
      refine Inv.turned (s := nog y) (it := C.a) (h' := h') (t' := y.toks) I2 (fun b o hb e => hoth b o hb e) af.free ?_ (.inr ?_) (fun x c e => ?_) fun p hp => ?_
      · show C.a ≠ env.locals
        rw [F.loc]
        exact Nat.ne_of_gt (Nat.lt_trans hL hLa)
      · show (cutH W.s.heap G.L).objs.size ≤ C.a
        rw [cutH_size o.low]
        exact Nat.le_of_lt (Nat.lt_trans hL hLa)
      · have e' : env.cells.lookup x = some c := e
        rw [F.cells] at e'; cases e'
      · rcases List.mem_append.mp hp with z | z
        · rcases List.mem_cons.mp z with z | z
          · rw [z]
            exact Nat.ne_of_lt (Nat.lt_trans ha hLa)
          · exact (hap p z).1
        · exact Nat.ne_of_lt (Nat.lt_trans (hpins p z) hLa)
    have o3 : W.s.gens.size ≤ ({ y.setGen C.g (End.susp v gd l k c p fs1).genState with heap := h' } : Shared).gens.size := by
      show W.s.gens.size ≤ (y.setGen C.g _).gens.size
      rw [GenW.setGen_size]
      exact Nat.le_trans o.size af.size
    obtain ⟨oL, nm, hpr0, hpL⟩ := ys_sleep F hp I3
    have hCa : G.L ≤ C.a := Nat.le_of_lt (Nat.lt_trans hL hLa)
    have hCaa : C.a ≠ G.a := Nat.ne_of_gt (Nat.lt_trans ha hLa)
    have hobj1 : GenObj { own with slots := #[some (.int (if true = true then 0 + 1 else 0 - 1) 0)] } C.g 1 := ⟨h.obj.cls, h.obj.data, .inr rfl⟩
    have hnc : ∀ v, ({ own with slots := #[some (.int (if true = true then 0 + 1 else 0 - 1) 0)] } : Obj).data ≠ .cell v := fun v q => by
      obtain ⟨nm, qn, hdt⟩ := h.obj.data
      have q' : own.data = .cell v := q
      rw [hdt] at q'; cases q'
    generalize ho1 : ({ own with slots := #[some (.int (if true = true then 0 + 1 else 0 - 1) 0)] } : Obj) = own1 at hself hobj1 hnc
    have hss := sm.trans af.same
    refine sg_yield hsp fun p0 => ?_
    refine ⟨_, _, _, _, _, _, _, x, H', ((G.L, oL) :: pins) ++ ((C.a, own1) :: priv'), (C.g, (End.susp v gd l k c p fs1).genState) :: sus', rfl, .inr ⟨_, _, _, _, _, _, rfl, hsp, hgd, C.a, _, _, own1, C.g, rfl, hself, hobj1.number⟩, rv, hφ, aft_of F I3 hss o.at_ o3 (fun i x e q nD ng => slp0 _ i x (af.sleep i x (o.sleep i x e q nD ng) q (nDs i (Array.getElem?_eq_some_iff.mp e).1 nD).1 (nDs i (Array.getElem?_eq_some_iff.mp e).1 nD).2) (nDs i (Array.getElem?_eq_some_iff.mp e).1 nD).2), g2,
      fun q hq => ?_, fun q hq => ?_, .inr ⟨_, _, C.a, _, _, _, _, own1, C.g, rfl, hgd, List.mem_append_right _ List.mem_cons_self, hobj1.number⟩, fun W2 P2 => ?_⟩
    · rcases List.mem_append.mp hq with z | z
      · obtain ⟨a1, a2, a3, a4, a5⟩ := hpr0 q z
        refine ⟨a1, a2, a3, a4, a5, fun r hr => ?_⟩
        rcases List.mem_cons.mp z with z | z
        · rw [z]
          have q := (I3.pin r (List.mem_append_left _ (List.mem_cons_of_mem _ hr))).2.2.1
          have q' : r.1 ≠ env.locals := q
          rw [F.loc] at q'; exact q'
        · exact o.apart r hr q z
      · rcases List.mem_cons.mp z with z | z
        · rw [z]
          exact ⟨hself, af.free, hCa, hCaa, hnc, fun r hr => (hap r hr).1⟩
        · obtain ⟨a1, a2, a3, a4, a5, a6⟩ := hpr q z
          exact ⟨hoth _ _ a4 a1, a2, Nat.le_trans (Nat.le_of_lt hL) a3, Nat.ne_of_gt (Nat.lt_of_lt_of_le ha a3), a5, a6⟩
    · rcases List.mem_cons.mp hq with z | z
      · rw [z]
        refine ⟨?_, rfl, hlo.mono fun q hq => List.mem_append_right _ (List.mem_cons_of_mem _ hq), hg, o.chD (C.g, gs) List.mem_cons_self⟩
        show (y.gens.setIfInBounds C.g _)[C.g]? = _
        rw [Array.getElem?_setIfInBounds_self_of_lt hlt]
      · obtain ⟨a1, a2, a3, a4, a5⟩ := hsu q z
        refine ⟨?_, a2, a3.mono fun q hq => List.mem_append_right _ (List.mem_cons_of_mem _ hq), Nat.lt_trans hg a4, ?_⟩
        case refine_2 =>
          rcases a5 with r | r
          · obtain ⟨q', hq', e'⟩ := List.mem_map.mp r
            rw [← e']
            exact o.chD q' (List.mem_cons_of_mem _ hq')
          · exact .inr (Nat.le_trans o.size r)
        show (y.gens.setIfInBounds C.g _)[q.1]? = _
        rw [Array.getElem?_setIfInBounds_ne (Nat.ne_of_lt a4)]
        exact a1
    · have I4 : InvL (gX G N env W2) pins σ W2.H W2.s := inv_at F P2 (List.mem_append_left _ List.mem_cons_self) nm fun p hpp =>
        ⟨List.mem_append_left _ (List.mem_cons_of_mem _ hpp), hpL p hpp, (hp p hpp).1, (hpr0 p (List.mem_cons_of_mem _ hpp)).2.2.2.2⟩
      have so := segOk_woken (pins := pins) F.young P2 fun q hq => List.mem_append_left _ (List.mem_cons_of_mem _ hq)
      have hown2 : (W2.s.setGen G.g .running).heap.get? C.a = some own1 := (P2.prv (C.a, own1) (List.mem_append_right _ List.mem_cons_self)).1
      have hfree2 : W2.H C.a = none := (P2.prv (C.a, own1) (List.mem_append_right _ List.mem_cons_self)).2
      show SgL _ _ _ _ (Builtin.Generator.sleptOver (.ref C.a) false >>= fun _ => _) fs _
      refine sg_bind (WL.of (sleptOver_at hown2 hobj1 fun h2 hself2 hoth2 hsz2 => ?_))
      try dsimp only
      refine sg_bind (WL.pure ?_)
      refine sg_again (plainId_quiet plain_yf _) ?_
      have I5 : InvL (gX G N env W2) pins σ W2.H { W2.s.setGen G.g .running with heap := h2 } := by
        refine Inv.turned (s := nog W2.s) (it := C.a) (h' := h2) (t' := W2.s.toks) I4 (fun b o hb e => hoth2 b o hb e) hfree2 ?_ (.inr ?_) (fun x c e => ?_) fun p hp => ?_
        · show C.a ≠ env.locals
          rw [F.loc]
          exact Nat.ne_of_gt (Nat.lt_trans hL hLa)
        · show (cutH W2.s.heap G.L).objs.size ≤ C.a
          rw [cutH_size so.low]
          exact hCa
        · have e' : env.cells.lookup x = some c := e
          rw [F.cells] at e'; cases e'
        · rcases List.mem_append.mp hp with z | z
          · rcases List.mem_cons.mp z with z | z
            · rw [z]
              exact Ne.symm hCaa
            · exact (P2.pin p z).2.2.2.2.2 (C.a, own1) (List.mem_append_right _ List.mem_cons_self)
          · exact Nat.ne_of_lt (Nat.lt_trans (hpins p z) hLa)
      refine ih W2 _ W2.H H' H1 _ _ priv' sus' ⟨?_, hself2, ⟨hobj1.cls, hobj1.data, .inr rfl⟩, hfree2, fun q hq => ?_, fun q hq => ?_, P2.tups, hwk⟩ I5 ⟨so.gc, so.size, so.inb, so.low, so.at_, so.apart, so.sleep, so.chD⟩ (fun p hq => ⟨(P2.pin p hq).2.2.2.2.2 (C.a, own1) (List.mem_append_right _ List.mem_cons_self), fun q hq2 => (P2.pin p hq).2.2.2.2.2 q (List.mem_append_right _ (List.mem_cons_of_mem _ hq2))⟩) (Same.refl _) (((tk.trans (TupKeep.of_same af.same))).trans P2.tups) hD
      · show (W2.s.gens.setIfInBounds G.g _)[C.g]? = _
        rw [Array.getElem?_setIfInBounds_ne (Nat.ne_of_lt hg)]
        exact P2.slp _ List.mem_cons_self
      · obtain ⟨b1, b2⟩ := P2.prv q (List.mem_append_right _ (List.mem_cons_of_mem _ hq))
        obtain ⟨a1, a2, a3, a4, a5, _⟩ := hpr q hq
        exact ⟨hoth2 _ _ a4 b1, b2, a3, a4, a5⟩
      · obtain ⟨a1, a2, a3, a4, _⟩ := hsu q hq
        refine ⟨?_, a2, a3, a4⟩
        show (W2.s.gens.setIfInBounds G.g _)[q.1]? = _
        rw [Array.getElem?_setIfInBounds_ne (Nat.ne_of_lt (Nat.lt_trans hg a4))]
        exact P2.slp q (List.mem_cons_of_mem _ hq)
end
/-! ### the statement -/
theorem over_in1 {A : Around} {c c' : Code} {fs : List Frame} {k : Result → Sem PySem.Fin} {g : Bool} {l kp : List Value} {p : Pos} (hw : c'.weight = 0) (hu : c'.cUnits = 1) :
    A.over c' (.ret k none g l c p kp :: fs) = (A.over c fs).in1 := by
  have d : A.depth + frameCount ((c, p) :: fs.map Frame.where_) + c'.weight = A.depth + frameCount (fs.map Frame.where_) + c.weight := by
    rw [frameCount_cons, hw]; omega
  have f : pushEnvs c'.envs (pushEnvs (envsOf ((c, p) :: fs.map Frame.where_)) A.frames) = pushEnvs c.envs (pushEnvs (envsOf (fs.map Frame.where_)) A.frames) := by
    rw [Code.envs_of_weight hw, envsOf_cons]
    simp only [pushEnvs_eq]
    cases A.frames <;> simp [List.append_assoc]
  have q : pushGuards c'.guards (pushGuards (guardsOf ((c, p) :: fs.map Frame.where_)) A.guards) = pushGuards c.guards (pushGuards (guardsOf (fs.map Frame.where_)) A.guards) := by
    rw [Code.guards_of_weight hw, guardsOf_cons]
    simp only [pushGuards_eq]
    cases A.guards <;> simp [List.append_assoc]
  have u : A.units + unitsOf ((c, p) :: fs.map Frame.where_) + c'.cUnits = A.units + unitsOf (fs.map Frame.where_) + c.cUnits + 1 := by
    rw [unitsOf_cons, hu]; omega
  show (⟨(marksOver fs (A.handled, A.handled)).1, A.depth + frameCount ((c, p) :: fs.map Frame.where_) + c'.weight, pushEnvs c'.envs (pushEnvs (envsOf ((c, p) :: fs.map Frame.where_)) A.frames),
    pushGuards c'.guards (pushGuards (guardsOf ((c, p) :: fs.map Frame.where_)) A.guards), A.units + unitsOf ((c, p) :: fs.map Frame.where_) + c'.cUnits⟩ : Around) = _
  rw [d, f, q, u]
  rfl
theorem iter_gen {P : Program} {w : World} {A : Around} {E : Value → Shared → Prop} {s : Shared} {a : Addr} {Q : Value → Shared → Prop} (hT : s.TypeIs (.ref a) "generator") (h : Q (.ref a) s) : wpAny (model P w) A (pyIter (.ref a)) Q E s := by
  refine wpAny_pyIter_slot hT slot_gen_iter (wpAny_call_entry slot_gen_iter hT entry_gen_iter ?_ (args_gen_iter _))
  show wpAny _ _ (ret (.ref a)) _ _ s
  exact wpAny_pure ⟨_, rfl, "generator", _, hT, slot_gen_next.lookup, h⟩
/-- an expression whose value is a new generator -/
def MadeE (X : Cx) (k : Nat) (pins : List (Addr × Obj)) (σ : L2.St) (Q : List YP → Hp → Prop) (s : Shared) (u : Value) (y : Shared) : Prop :=
  ∃ H1 s1 items, InvL X pins σ H1 s1 ∧ GKept s s1 ∧ MadeG X.prog X.w X.K X.mg X.base k X.stack H1 s1 items u y ∧ Q items H1
abbrev TYG := L2.St → Hp → (List YP → Hp → Prop) → Prop
structure PGL (X : Cx) (k : Nat) (e : Expr) (t : TYG) : Prop where
  run : ∀ (pins : List (Addr × Obj)) (s : Shared) (σ : L2.St) (H : Hp) (Q : List YP → Hp → Prop), InvL X pins σ H s → t σ H Q → WL (model X.prog X.w) X.A (eval e X.env) (MadeE X k pins σ Q s) NoX s
def tGCall (sp : SpY) (t : TA) : TYG := fun σ H Q => t σ H fun vs H1 => ∃ items, sp vs H1 items ∧ Q items H1
theorem pgl_call {X : Cx} (hX : Calm X) {k : Nat} {f : Addr} {fd : FuncData} {ps : List Str} {sp : SpY} {x : Str} {p pos : Pos} {e : Expr} {es : List Expr} {t : TA} (F : FnG X.prog X.w X.K X.mg X.base k f fd ps sp) (hr : Room k X.A) (hg : Gl X x) (hm : X.mg x = some (.ref f)) (hk : PySem.W.keepIn X.K (.ref f) = true) (hb : Binds X.K fd ps [])
    (ha : PA X (e :: es) t) (hdb : (x == ("__debug__" : Str)) = false := by decide) (he : starEach (e :: es) X.env = (false, eval e X.env) :: starEach es X.env := by rfl) (hpl : (backTo pos (starEach es X.env)).any (·.1) = false := by rfl) :
    PGL X k (.Call (.Name x p) (e :: es) [] pos) (tGCall sp t) := by
  refine ⟨fun pins s σ H Q I h => ?_⟩
  rw [arm_eval_Call_Name']
  refine WL.bind (((PEL.of hX (pe_glob (v := .ref f) hg hm rfl hdb)).run pins s σ H (fun v H' => v = .ref f ∧ H' = H) I ⟨rfl, rfl⟩).thn fun u y ⟨v, H', I1, r1, ⟨e1, e2⟩, k1⟩ => ?_)
  subst e1; subst e2
  obtain rfl : u = Value.ref f := r1
  have hpl2 : ((backTo pos (starEach (e :: es) X.env)).any (·.1) || (backToKw pos (keywordEach [] X.env)).any (·.1.isNone)) = false := by
    rw [he]
    show ((false || (backTo pos (starEach es X.env)).any (·.1)) || false) = false
    rw [hpl]; rfl
  refine callWithL hpl2 hk ?_
  have q := ha.run pos pins (scrub y) σ H' _ I1.scrub h
  rw [he] at q ⊢
  refine lift (E := X.xe) (Calls.evalArgs_plain (f := .ref f) (Q := fun a z => ∃ vs H2, Inv X pins σ H2 z ∧ Vals vs a.pos ∧ a.kw = [] ∧ ∃ items, sp vs H2 items ∧ Q items H2) (thn q fun us z ⟨vs, H2, I2, r2, q2⟩ => ⟨vs, H2, I2, r2, rfl, q2⟩)) hX fun a z ⟨vs, H2, I2, r2, ekw, q2⟩ => ⟨I2.bare, fun y2 e2 k2 => ⟨?_, ?_⟩⟩
  · subst e2
    exact I2.kIn
  · subst e2
    obtain ⟨apos, akw⟩ := a
    obtain rfl : akw = [] := ekw
    have I3 : InvL X pins σ H2 (rst (sleepers y) z) := InvL.ofR I2
    obtain ⟨items, q2, q3⟩ := q2
    have hl : apos.length = ps.length := by rw [← r2.length]; exact F.len _ _ _ q2
    have hb2 : BindsTo (rst (sleepers y) z) fd ⟨apos, []⟩ (ps.zip apos) := by
      have := hb (rst (sleepers y) z) apos I2.kIn (by rw [List.append_nil]; exact hl)
      rw [List.append_nil] at this
      exact this
    refine WL.call ((F.run X.A X.stack _ H2 ⟨apos, []⟩ apos vs items hr I3.env0 hb2 r2 q2).mono fun r y3 q4 => ?_)
    cases r with
    | error x => exact q4.elim
    | ok fl =>
      cases fl with
      | ret u => exact ⟨H2, _, items, I3, k1.trans k2, q4, q3⟩
      | next => exact q4.elim
      | brk => exact q4.elim
      | cont => exact q4.elim
theorem InvL.made {X : Cx} {pins : List (Addr × Obj)} {σ : L2.St} {H : Hp} {s y : Shared} (I : InvL X pins σ H s) (os : y.os = s.os) (k : ∀ b o, s.heap.get? b = some o → y.heap.get? b = some o) : InvL X pins σ H y :=
  Inv.call' (s := nog s) (s' := nog y) (ch := []) I os (Un.kept k) (I.hok.kept k) AllBare.empty (fun b z => absurd z (by simp))
def tyFrom (t : TYG) : TY := fun D rest Hw σ H => t σ H fun items H1 => ∃ rest', rest = items ++ rest' ∧ Same Hw H1 ∧ ∀ Hw' H2, Same Hw' H2 → TupKeep H1 H2 → D.nx rest' Hw' σ H2
theorem ys_yieldFrom {G : GD} {N : List Str} {env : Env} {k : Nat} {e : Expr} {yp pos : Pos} {t : TYG} (F : GFix G N env) (hr : Room (k + 2) (G.A.deeper env)) (he : ∀ W, PGL (gX G N env W) k e t) (hi : interactive env = false := by rfl) :
    YS G N env (.Expr (.YieldFrom e yp) pos) (tyFrom t) := by
  refine ⟨fun pins W rest c fs K J gd lv s σ H D gc hp kk I o ht => ?_⟩
  rw [exec_Expr env _ pos hi rfl]
  show SgL (model G.P G.w) G.A _ c (.at pos fun _ => ((eval e env >>= fun v => (standAt yp >>= fun _ => yieldFrom env v)) >>= fun x => dropValue (.YieldFrom e yp) pos x).wrap K J gd lv) fs s
  refine sg_at ?_
  rw [Sem.bind_eq_wrap' (eval e env >>= _), Sem.wrap_wrap]
  refine sgw_bind ?_
  rw [gc.over]
  refine ((he W).run pins s σ H _ I ht).mono (fun v y hv => ?_) fun _ _ q => q.elim
  obtain ⟨H1, s1, items, I1, k1, m, rest', rfl, sm, hD⟩ := hv
  obtain ⟨a, g, L, cc, own, oL, rfl, szL, hLa, szg, os, hk, k2, held⟩ := m.held I1.hok
  have I2 := I1.made os hk
  have hA1 : Room (k + 1) (G.A.deeper env).in1 := Room.in1 (k := k + 1) hr
  have hA2 : Room k (G.A.deeper env).in1.in1 := hA1.in1
  have hfr : (G.A.deeper env).frames = some (env :: G.outer) := I.ok.frames
  have h0 := held (G.A.deeper env).in1.in1 hA2 hfr
  refine sgw_bind (WL.standAt ?_)
  unfold yieldFrom
  refine sgw_bind (WL.of (wpAny_typeOf (T := "generator") ⟨own, h0.ownAt, h0.obj.cls⟩ ?_))
  rw [if_neg (by decide)]
  refine sgw_bind (WL.holding (WL.of (iter_gen ⟨own, h0.ownAt, h0.obj.cls⟩ ?_)))
  refine sg_call fun p => ?_
  have inI : ∀ q ∈ (G.a, W.own) :: pins, q.1 < L := fun q hq => by
    refine Nat.lt_of_lt_of_le (Heap.lt_size (I1.pin q ?_).1) szL
    rcases List.mem_cons.mp hq with z | z
    · rw [z]; exact List.mem_append_left _ List.mem_cons_self
    · exact List.mem_append_right _ z
  have hGL : G.L < L := by
    have q : env.locals < s1.heap.objs.size := I1.lt
    rw [F.loc] at q
    exact Nat.lt_of_lt_of_le q szL
  have ov : ∀ (kr : Result → Sem PySem.Fin) (gg : Bool) (ll : List Value), G.A.over (yfC a) (.ret kr none gg ll c p [] :: fs) = (G.A.deeper env).in1 := fun kr gg ll => (over_in1 (plainId_weight plain_yf _) (plainId_units plain_yf _)).trans (by rw [gc.over])
  have sgo : SegOk G pins W y ((g, .fresh cc) :: []) := by
    have q := (o.kept k1).kept k2
    exact ⟨fun i x e => (q.gc i x e).elim .inl fun z => z.elim (fun z => .inr (.inl z)) fun z => absurd z (by simp), q.size, q.inb, q.low, q.at_, q.apart, q.sleep, fun r hr => .inr (by rw [List.mem_singleton.mp hr]; exact Nat.le_trans (Nat.le_trans o.size k1.size) szg)⟩
  have szG : G.g < g := Nat.lt_of_lt_of_le o.inb (Nat.le_trans (Nat.le_trans o.size k1.size) szg)
  have hap0 : ∀ p ∈ W.pin, p.1 ≠ a ∧ ∀ q ∈ [(L, oL)], p.1 ≠ q.1 := fun p hq => by
    have lt : p.1 < L := Nat.lt_of_lt_of_le (Heap.lt_size (I1.pin p (List.mem_append_left _ (List.mem_cons_of_mem _ hq))).1) szL
    refine ⟨Nat.ne_of_lt (Nat.lt_trans lt hLa), fun q hq2 => ?_⟩
    rw [List.mem_singleton.mp hq2]
    exact Nat.ne_of_lt lt
  refine seg_yfG (D := fun Hw' H2 => D.nx rest' Hw' σ H2) (C := ⟨G.P, G.w, G.K, G.mg, G.base, (G.A.deeper env).in1.in1, env :: G.outer, L, a, g⟩) F hp (by rw [ov]) rfl rfl rfl rfl rfl rfl hGL (inI _ List.mem_cons_self) (fun q hq => inI q (List.mem_cons_of_mem _ hq)) hLa szG
    (by rw [ov]; exact hr.hd) (by rw [ov]; exact hA1.depth) (by rw [ov]; exact hfr) ?_ ?_ (fun W' H' y' hd I' o' => ?_) items W y H1 H1 H1 (.fresh cc) own [(L, oL)] [] h0 I2 sgo hap0 sm (TupKeep.refl _) hD
  · show (splitAtGen fs).map _ = none
    rw [gc.split]; rfl
  · show (gd false || fs.any Frame.guarded) = false
    rw [gc.gd, gc.guard]; rfl
  · exact sg_leaf (.ok (.ret .none)) (kk.ok rest' W' y' .next ⟨σ, H', I', hd⟩ o')
end TF
/-! ## TfForG -/
/-! a loop over a generator, in a plain def -/
namespace TF
open PySem PySem.Spec PySem.W PyProof.Rows L2
/-- behind a statement: the sleepers of s stand; what is new is bare, or (unless T) asleep over a generator that is pinned at more -/
structure KX (T : Prop) (more : List (Addr × Obj)) (s y : Shared) : Prop where
  sleep : ∀ (i : Nat) (x : GenState), s.gens[i]? = some x → IsSusp x = true → y.gens[i]? = some x
  bare : ∀ (i : Nat) (x : GenState), y.gens[i]? = some x → x.bare = true ∨ s.gens[i]? = some x ∨ (¬ T ∧ LoudOk more x)
  size : s.gens.size ≤ y.gens.size
theorem KX.of {T : Prop} {s y : Shared} (k : GKept s y) : KX T [] s y := ⟨k.sleep, fun i x e => (k.bare i x e).elim .inl fun z => .inr (.inl z), k.size⟩
theorem KX.trans {T : Prop} {m1 m2 : List (Addr × Obj)} {s y z : Shared} (a : KX T m1 s y) (b : KX T m2 y z) : KX T (m1 ++ m2) s z :=
  ⟨fun i x e q => b.sleep i x (a.sleep i x e q) q, fun i x e => by
    rcases b.bare i x e with q | q | ⟨t, q⟩
    · exact .inl q
    · rcases a.bare i x q with r | r | ⟨t, r⟩
      · exact .inl r
      · exact .inr (.inl r)
      · exact .inr (.inr ⟨t, r.mono fun p hp => List.mem_append_left _ hp⟩)
    · exact .inr (.inr ⟨t, q.mono fun p hp => List.mem_append_right _ hp⟩), Nat.le_trans a.size b.size⟩
/-- the new pins -/
structure More (T : Prop) (X : Cx) (pins more : List (Addr × Obj)) : Prop where
  tight : T → more = []
  apart : ∀ p ∈ more, ∀ q ∈ X.pn ++ pins, p.1 ≠ q.1
theorem More.nil {T : Prop} {X : Cx} {pins : List (Addr × Obj)} : More T X pins [] := ⟨fun _ => rfl, fun p hp => absurd hp (by simp)⟩
theorem More.trans {T : Prop} {X : Cx} {pins m1 m2 : List (Addr × Obj)} (a : More T X pins m1) (b : More T X (pins ++ m1) m2) : More T X pins (m1 ++ m2) :=
  ⟨fun t => by rw [a.tight t, b.tight t]; rfl, fun p hp q hq => (List.mem_append.mp hp).elim (fun z => a.apart p z q hq) fun z => b.apart p z q ((List.mem_append.mp hq).elim (fun r => List.mem_append_left _ r) fun r => List.mem_append_right _ (List.mem_append_left _ r))⟩
structure PXL (T : Prop) (X : Cx) (st : Stmt) (t : TS) : Prop where
  run : ∀ (pins : List (Addr × Obj)) (s : Shared) (σ : L2.St) (H : Hp) (D : Ends), InvL X pins σ H s → t D σ H → WL (model X.prog X.w) X.A (exec st X.env) (fun f y => ∃ more, More T X pins more ∧ SPL X (pins ++ more) D f y ∧ KX T more s y) NoX s
structure PXsL (T : Prop) (X : Cx) (st : List Stmt) (t : TS) : Prop where
  run : ∀ (pins : List (Addr × Obj)) (s : Shared) (σ : L2.St) (H : Hp) (D : Ends), InvL X pins σ H s → t D σ H → WL (model X.prog X.w) X.A (execs st X.env) (fun f y => ∃ more, More T X pins more ∧ SPL X (pins ++ more) D f y ∧ KX T more s y) NoX s
section
variable {T : Prop} {X : Cx} {st : Stmt} {rest : List Stmt} {t u : TS}
theorem PXL.ofP (h : PSL X st t) : PXL T X st t := ⟨fun pins s σ H D I ht => (h.run pins s σ H D I ht).thn fun f y ⟨q, k⟩ => ⟨[], .nil, by rw [List.append_nil]; exact q, .of k⟩⟩
theorem PXsL.ofP (h : PSsL X rest t) : PXsL T X rest t := ⟨fun pins s σ H D I ht => (h.run pins s σ H D I ht).thn fun f y ⟨q, k⟩ => ⟨[], .nil, by rw [List.append_nil]; exact q, .of k⟩⟩
theorem PXL.toP (h : PXL True X st t) : PSL X st t := ⟨fun pins s σ H D I ht => (h.run pins s σ H D I ht).thn fun f y ⟨more, m, q, k⟩ => by
  obtain rfl := m.tight trivial
  rw [List.append_nil] at q
  exact ⟨q, k.sleep, fun i x e => (k.bare i x e).elim .inl fun z => z.elim .inr fun z => absurd trivial z.1, k.size⟩⟩
theorem pxs_cons (a : PXL T X st t) (b : PXsL T X rest u) : PXsL T X (st :: rest) (tSeq t u) := by
  refine ⟨fun pins s σ H D I h => ?_⟩
  refine wl_execs_cons ((a.run pins s σ H { D with nx := u D } I h).thn fun f y ⟨m1, e1, q, k⟩ => ?_)
  cases f with
  | next =>
    obtain ⟨σ', H', I', q⟩ := q
    exact (b.run (pins ++ m1) y σ' H' D I' q).thn fun f z ⟨m2, e2, q, k2⟩ => ⟨m1 ++ m2, e1.trans e2, by rw [← List.append_assoc]; exact q, k.trans k2⟩
  | ret v => exact ⟨m1, e1, q, k⟩
  | brk => exact ⟨m1, e1, q, k⟩
  | cont => exact ⟨m1, e1, q, k⟩
theorem pxs_one (a : PXL T X st t) : PXsL T X [st] t := by
  refine ⟨fun pins s σ H D I h => ?_⟩
  refine wl_execs_cons ((a.run pins s σ H D I h).thn fun f y q => ?_)
  cases f with
  | next => exact wl_execs_nil q
  | ret v => exact q
  | brk => exact q
  | cont => exact q
end
/-- a loop over a generator: Wi is kept by the turns -/
def tForG (T : Prop) (t : TYG) (g : TG) (tb : TS) : TS := fun D σ H => t σ H fun items H1 => ∃ Wi : Nat → L2.St → Hp → Prop, Wi 0 σ H1 ∧ (∀ σ H H2, Wi items.length σ H → Same H H2 → D.nx σ H2) ∧
  ∀ i φ σ H x H', Wi i σ H → items[i]? = some φ → Same H H' → φ x H' → g x σ H' fun σ2 H2 =>
    tb { nx := fun σ3 H3 => Wi (i + 1) σ3 H3 ∧ TupKeep H' H3, ct := fun σ3 H3 => Wi (i + 1) σ3 H3 ∧ TupKeep H' H3, bk := fun σ3 H3 => ¬ T ∧ D.nx σ3 H3, rt := fun v H3 => ¬ T ∧ D.rt v H3 } σ2 H2
theorem SPL.pins {X : Cx} {p p' : List (Addr × Obj)} {D : Ends} {f : Flow} {y : Shared} (e : p = p') (h : SPL X p D f y) : SPL X p' D f y := e ▸ h
structure LoopI (T : Prop) (X : Cx) (C : GD) (pins : List (Addr × Obj)) (items : List YP) (Wi : Nat → L2.St → Hp → Prop) (s z : Shared) (i : Nat) (more : List (Addr × Obj)) (σ : L2.St) (H : Hp) (gs : GenState) (own : Obj) (priv : List (Addr × Obj)) (sus : List (Nat × GenState)) (Hy : Hp) : Prop where
  le : i ≤ items.length
  mo : More T X pins more
  held : Held C (items.drop i) gs own priv sus Hy H z
  inv : InvL X (pins ++ more) σ H z
  wi : Wi i σ H
  led : ∀ (j : Nat) (x : GenState), z.gens[j]? = some x → x.bare = true ∨ s.gens[j]? = some x ∨ (¬ T ∧ LoudOk more x) ∨ (j, x) ∈ (C.g, gs) :: sus
  slp : ∀ (j : Nat) (x : GenState), s.gens[j]? = some x → IsSusp x = true → z.gens[j]? = some x
  size : s.gens.size ≤ z.gens.size
  ap : ∀ p ∈ X.pn ++ (pins ++ more), p.1 ≠ C.a ∧ ∀ q ∈ priv, p.1 ≠ q.1
theorem pxl_forG {T : Prop} {X : Cx} {pos : Pos} {tg iter : Expr} {body : List Stmt} {k : Nat} {t : TYG} {g : TG} {tb : TS} (hX : Calm X) (hr : Room (k + 1) X.A) (he : PGL X k iter t) (hg : PG X tg g) (hb : PXsL T X body tb)
    (hs : ∀ x, foldedSetIterable iter X.env x = pure x := by intro _; rfl) : PXL T X (.For tg iter body [] pos) (tForG T t g tb) := by
  refine ⟨fun pins s σ H D I h => ?_⟩
  refine wl_For ((he.run pins s σ H _ I h).thn fun v y hv => ?_) hs
  obtain ⟨H1, s1, items, I1, k1, m, Wi, w0, wend, wstep⟩ := hv
  obtain ⟨a, gc, L, cc, own0, oL, rfl, szL, hLa, szg, os, hk, k2, held⟩ := m.held I1.hok
  have I2 := I1.made os hk
  have hA : Room k X.A.in1 := Room.in1 hr
  have h0 := held X.A.in1 hA I.ok.frames
  have lt1 : ∀ b, b < s1.heap.objs.size → b < L := fun b hb => Nat.lt_of_lt_of_le hb szL
  have hlocL : X.env.locals < L := lt1 _ I1.lt
  have hs0L : X.s_0.heap.objs.size ≤ L := Nat.le_trans I1.sz szL
  have hcellL : ∀ x c, X.env.cells.lookup x = some c → c < L := fun x c e => by
    obtain ⟨v, o, ho, _⟩ := I1.cell x c e
    exact lt1 _ (Heap.lt_size ho)
  have hfsL : ∀ b ∈ X.fs, b < L := fun b hb => by
    obtain ⟨_, o, ho, _⟩ := I1.ok.funs.mem hb
    exact Nat.lt_of_lt_of_le (Heap.lt_size ho) hs0L
  have hpinL : ∀ p ∈ X.pn ++ pins, p.1 < L := fun p hp => lt1 _ (Heap.lt_size (I1.pin p hp).1)
  refine WL.of (iter_gen ⟨own0, h0.ownAt, h0.obj.cls⟩ ?_)
  generalize hC : (⟨X.prog, X.w, X.K, X.mg, X.base, X.A.in1, X.stack, L, a, gc⟩ : GD) = C at h0
  have cP : C.P = X.prog := by rw [← hC]
  have cw : C.w = X.w := by rw [← hC]
  have cA : C.A = X.A.in1 := by rw [← hC]
  have cg : C.g = gc := by rw [← hC]
  have ca : C.a = a := by rw [← hC]
  have cL : C.L = L := by rw [← hC]
  have co : C.outer = X.stack := by rw [← hC]
  rw [← ca]
  have L0 : LoopI T X C pins items Wi s y 0 [] σ H1 (.fresh cc) own0 [(L, oL)] [] H1 := by
    refine ⟨Nat.zero_le _, .nil, h0, by rw [List.append_nil]; exact I2, w0, fun j x e => ?_, fun j x e q => k2.sleep j x (k1.sleep j x e q) q, Nat.le_trans k1.size k2.size, fun p hp => ?_⟩
    · rcases k2.bare j x e with q | q
      · exact .inl q
      · exact (k1.bare j x q).elim .inl fun z => .inr (.inl z)
    · rw [List.append_nil] at hp
      have lt := hpinL p hp
      refine ⟨by rw [ca]; exact Nat.ne_of_lt (Nat.lt_trans lt hLa), fun q hq => ?_⟩
      rw [List.mem_singleton.mp hq]
      exact Nat.ne_of_lt lt
  refine cl_forLoop (fun n z => ∃ i more σ H gs own priv sus Hy, n = items.length - i ∧ LoopI T X C pins items Wi s z i more σ H gs own priv sus Hy) ?_ _ y ⟨0, [], σ, H1, _, _, _, _, _, rfl, L0⟩
  rintro n z ⟨i, more, σ3, H3, gs, own, priv, sus, Hy, rfl, l⟩
  have e0 : Env0 C.P C.w C.K C.mg C.base C.A C.outer (nog z) H3 := by
    have q := l.inv.env0
    rw [← hC]
    exact ⟨q.frames, q.mod, q.bs, q.bsz, q.funs, q.frf, q.hok, q.bare⟩
  have wk := l.held.wake _ (l.held.pre (pin := X.pn ++ (pins ++ more)) e0 (fun p hq => by
    obtain ⟨a1, a2, a3, a4, a5⟩ := l.inv.pin p hq
    refine ⟨a1, a2, fun z => ?_, a5⟩
    rw [co] at z
    rcases List.mem_cons.mp (l.inv.stkSub _ z) with z | z
    · exact a3 z
    · exact a4 z) l.ap)
  rw [cP, cw, cA] at wk
  have hgn : s.gens.size ≤ C.g := by rw [cg]; exact Nat.le_trans k1.size szg
  have chn : ∀ q ∈ (C.g, gs) :: sus, s.gens.size ≤ q.1 := fun q hq => by
    rcases List.mem_cons.mp hq with z | z
    · rw [z]; exact hgn
    · exact Nat.le_trans hgn (Nat.le_of_lt (l.held.slp q z).2.2.2)
  have nD : ∀ j, j < s.gens.size → j ∉ sus.map (·.1) ∧ j ≠ C.g := fun j hj => by
    have key : ∀ q ∈ (C.g, gs) :: sus, j ≠ q.1 := fun q hq e => by
      rw [e] at hj
      exact Nat.lt_irrefl _ (Nat.lt_of_lt_of_le hj (chn q hq))
    exact ⟨fun hm => let ⟨q, hq, e⟩ := List.mem_map.mp hm; key q (List.mem_cons_of_mem _ hq) e.symm, key _ List.mem_cons_self⟩
  -- behind a turn of the generator
  have turned : ∀ {H' : Hp} {y : Shared} {sus' : List (Nat × GenState)} (x : GenState), Aft C ⟨z, H3, own, sus.map (·.1), X.pn ++ (pins ++ more)⟩ H' y → GC ⟨z, H3, own, sus.map (·.1), X.pn ++ (pins ++ more)⟩ y sus' →
      InvL X (pins ++ more) σ3 H' y ∧ (∀ (j : Nat) (w : GenState), (y.setGen C.g x).gens[j]? = some w → w.bare = true ∨ s.gens[j]? = some w ∨ (¬ T ∧ LoudOk more w) ∨ (j, w) ∈ (C.g, x) :: sus') ∧
      (∀ (j : Nat) (w : GenState), s.gens[j]? = some w → IsSusp w = true → (y.setGen C.g x).gens[j]? = some w) ∧ s.gens.size ≤ (y.setGen C.g x).gens.size := by
    intro H' y sus' x af gcy
    have hlt : C.g < y.gens.size := Nat.lt_of_lt_of_le l.held.lt af.size
    refine ⟨?_, fun j w e => ?_, fun j w e q => ?_, by rw [GenW.setGen_size]; exact Nat.le_trans l.size af.size⟩
    · refine Inv.call' (s := nog z) (s' := nog y) (ch := young C.L ⟨z, H3, own, sus.map (·.1), X.pn ++ (pins ++ more)⟩) l.inv af.os ?_ ?_ AllBare.empty fun b hb => ?_
      · have := af.un
        rw [co] at this
        exact this
      · have := af.hok
        rw [cP, cw] at this
        exact this
      · obtain ⟨_, hb, hnp⟩ := mem_young.mp hb
        rw [cL] at hb
        exact ⟨.inr (Nat.le_trans hs0L hb), Nat.ne_of_gt (Nat.lt_of_lt_of_le hlocL hb), fun x c e => Nat.ne_of_lt (Nat.lt_of_lt_of_le (hcellL x c e) hb), fun p hp e => hnp (List.mem_map.mpr ⟨p, hp, e⟩)⟩
    · have e' : (y.gens.setIfInBounds C.g x)[j]? = some w := e
      by_cases hj : C.g = j
      · subst hj
        rw [Array.getElem?_setIfInBounds_self_of_lt hlt] at e'
        cases e'
        exact .inr (.inr (.inr List.mem_cons_self))
      · rw [Array.getElem?_setIfInBounds_ne hj] at e'
        rcases gcy j w e' with q | ⟨q, nd⟩ | q
        · exact .inl q
        · rcases l.led j w q with r | r | r | r
          · exact .inl r
          · exact .inr (.inl r)
          · exact .inr (.inr (.inl r))
          · rcases List.mem_cons.mp r with r | r
            · exact absurd (congrArg Prod.fst r).symm hj
            · exact absurd (List.mem_map.mpr ⟨_, r, rfl⟩) nd
        · exact .inr (.inr (.inr (List.mem_cons_of_mem _ q)))
    · obtain ⟨n1, n2⟩ := nD j (Array.getElem?_eq_some_iff.mp e).1
      show (y.gens.setIfInBounds C.g x)[j]? = some w
      rw [Array.getElem?_setIfInBounds_ne (Ne.symm n2)]
      exact af.sleep j w (l.slp j w e q) q n1 n2
  by_cases hi : i < items.length
  · -- an item
    have hdrop : items.drop i = items[i] :: items.drop (i + 1) := List.drop_eq_getElem_cons hi
    rw [hdrop] at wk
    refine pyNext_L (n := 0) hr.hd l.inv.nolimit hr.depth l.held.ownAt l.held.obj (by decide) l.held.st wk (fun r y i => ?_) fun v gd ll kk c p fs1 y itm hlt => ?_
    · obtain ⟨_, _, _, _, _, _, _, _, _, _, _, er, _⟩ := i
      cases er
    obtain ⟨v', gd', l', k', c', p', fs', x, H', priv', sus', er, ok, rv, hφ, af, gcy, hpr, hsu, hlo, hwk⟩ := itm
    cases er
    refine ⟨ok, ?_⟩
    generalize hgs : (End.susp v gd ll kk c p fs1).genState = gs' at hlo hwk
    have hsp' : IsSusp gs' = true := by rw [← hgs]; rfl
    obtain ⟨I4, led4, slp4, size4⟩ := turned gs' af gcy
    have hown : (y.setGen C.g gs').heap.get? C.a = some own := af.own
    obtain ⟨nm, qn, hdt⟩ := l.held.obj.data
    refine WL.of (go_of (n := "generator") hown l.held.obj.cls hdt (by decide) ?_)
    -- the chain is pinned
    have hnc : ∀ v, own.data ≠ .cell v := fun v q => by rw [hdt] at q; cases q
    have apC : ∀ p ∈ X.pn ++ (pins ++ more), p.1 ≠ C.a ∧ ∀ q ∈ priv', p.1 ≠ q.1 := fun p hp => ⟨(l.ap p hp).1, fun q hq => (hpr q hq).2.2.2.2.2 p hp⟩
    have I5 : InvL X ((pins ++ more) ++ ((C.a, own) :: priv')) σ3 H' (y.setGen C.g gs') := by
      refine Inv.pins_of (s := nog y) I4 fun p hp => ?_
      have yng : ∀ b : Addr, L ≤ b → b ≠ X.env.locals ∧ b ∉ X.fs := fun b hl => ⟨Nat.ne_of_gt (Nat.lt_of_lt_of_le hlocL hl), fun z => Nat.lt_irrefl _ (Nat.lt_of_lt_of_le (hfsL _ z) hl)⟩
      rcases List.mem_append.mp hp with z | z
      · exact I4.pin p (List.mem_append_right _ z)
      · rcases List.mem_cons.mp z with z | z
        · rw [z]
          obtain ⟨y1, y2⟩ := yng C.a (by rw [ca]; exact Nat.le_of_lt hLa)
          exact ⟨af.own, af.free, y1, y2, hnc⟩
        · obtain ⟨a1, a2, a3, a4, a5, a6⟩ := hpr p z
          rw [cL] at a3
          obtain ⟨y1, y2⟩ := yng _ a3
          exact ⟨a1, a2, y1, y2, a5⟩
    refine (targetL hX hg I5 rv (wstep i items[i] σ3 H3 x H' l.wi (List.getElem?_eq_getElem hi) af.same hφ)).thn fun _ s6 ⟨σ6, H6, I6, q6, k6⟩ => ?_
    refine (hb.run _ s6 σ6 H6 _ I6 q6).thn fun f s7 ⟨m2, em2, q7, k7⟩ => ?_
    have k67 : KX T m2 (y.setGen C.g gs') s7 := by simpa using (KX.of (T := T) k6).trans k7
    have slp7 : ∀ (j : Nat) (w : GenState), s.gens[j]? = some w → IsSusp w = true → s7.gens[j]? = some w := fun j w e q => k67.sleep j w (slp4 j w e q) q
    have size7 : s.gens.size ≤ s7.gens.size := Nat.le_trans size4 k67.size
    have mo2 : More T X pins (more ++ m2) := l.mo.trans ⟨em2.tight, fun p hp q hq => em2.apart p hp q ((List.mem_append.mp hq).elim (fun r => List.mem_append_left _ r) fun r => List.mem_append_right _ (List.mem_append_left _ r))⟩
    have led7 : ∀ (j : Nat) (w : GenState), s7.gens[j]? = some w → w.bare = true ∨ s.gens[j]? = some w ∨ (¬ T ∧ LoudOk (more ++ m2) w) ∨ (j, w) ∈ (C.g, gs') :: sus' := fun j w e => by
      rcases k67.bare j w e with q | q | ⟨nt, q⟩
      · exact .inl q
      · rcases led4 j w q with r | r | ⟨nt, r⟩ | r
        · exact .inl r
        · exact .inr (.inl r)
        · exact .inr (.inr (.inl ⟨nt, r.mono fun p hp => List.mem_append_left _ hp⟩))
        · exact .inr (.inr (.inr r))
      · exact .inr (.inr (.inl ⟨nt, q.mono fun p hp => List.mem_append_right _ hp⟩))
    -- the loop goes on
    have again : ∀ {σ7 : L2.St} {H7 : Hp}, InvL X (((pins ++ more) ++ ((C.a, own) :: priv')) ++ m2) σ7 H7 s7 → Wi (i + 1) σ7 H7 ∧ TupKeep H' H7 →
        ∃ m', m' < items.length - i ∧ ∃ i' more' σ' H'' gs'' own'' priv'' sus'' Hy'', m' = items.length - i' ∧ LoopI T X C pins items Wi s s7 i' more' σ' H'' gs'' own'' priv'' sus'' Hy'' := by
      intro σ7 H7 I7 ⟨w7, tk7⟩
      have pin7 := fun p (hp : p ∈ ((pins ++ more) ++ ((C.a, own) :: priv')) ++ m2) => I7.pin p (List.mem_append_right _ hp)
      refine ⟨items.length - (i + 1), by omega, i + 1, more ++ m2, σ7, H7, gs', own, priv', sus', H', rfl, hi, mo2, ⟨?_, ?_, l.held.obj, ?_, fun p hp => ?_, fun q hq => ?_, tk7, hwk⟩, ?_, w7, led7, slp7, size7, fun p hp => ?_⟩
      · refine k67.sleep C.g gs' ?_ hsp'
        show (y.gens.setIfInBounds C.g gs')[C.g]? = _
        rw [Array.getElem?_setIfInBounds_self_of_lt hlt]
      · exact (pin7 (C.a, own) (List.mem_append_left _ (List.mem_append_right _ List.mem_cons_self))).1
      · exact (pin7 (C.a, own) (List.mem_append_left _ (List.mem_append_right _ List.mem_cons_self))).2.1
      · obtain ⟨a1, a2, a3, a4, a5, a6⟩ := hpr p hp
        have q := pin7 p (List.mem_append_left _ (List.mem_append_right _ (List.mem_cons_of_mem _ hp)))
        exact ⟨q.1, q.2.1, a3, a4, a5⟩
      · obtain ⟨a1, a2, a3, a4, a5⟩ := hsu q hq
        refine ⟨k67.sleep _ _ ?_ a2, a2, a3, a4⟩
        show (y.gens.setIfInBounds C.g gs')[q.1]? = _
        rw [Array.getElem?_setIfInBounds_ne (Nat.ne_of_lt a4)]
        exact a1
      · refine Inv.pins_of (s := nog s7) I7 fun p hp => pin7 p ?_
        rw [← List.append_assoc] at hp
        rcases List.mem_append.mp hp with z | z
        · exact List.mem_append_left _ (List.mem_append_left _ z)
        · exact List.mem_append_right _ z
      · rw [← List.append_assoc, ← List.append_assoc] at hp
        rcases List.mem_append.mp hp with z | z
        · rw [List.append_assoc] at z
          exact apC p z
        · have q := em2.apart p z
          refine ⟨q (C.a, own) (List.mem_append_right _ (List.mem_append_right _ List.mem_cons_self)), fun r hr => q r (List.mem_append_right _ (List.mem_append_right _ (List.mem_cons_of_mem _ hr)))⟩
    -- the loop is left
    have left : ∀ {f' : Flow} {D' : Ends}, ¬ T → SPL X (((pins ++ more) ++ ((C.a, own) :: priv')) ++ m2) D' f' s7 → ∃ more', More T X pins more' ∧ SPL X (pins ++ more') D' f' s7 ∧ KX T more' s s7 := by
      intro f' D' nt q
      refine ⟨more ++ (((C.a, own) :: priv') ++ m2), ⟨fun t => absurd t nt, fun p hp q hq => ?_⟩, SPL.pins (by simp only [List.append_assoc]) q, slp7, fun j w e => ?_, size7⟩
      · have hq' : q ∈ X.pn ++ (pins ++ more) := (List.mem_append.mp hq).elim (fun r => List.mem_append_left _ r) fun r => List.mem_append_right _ (List.mem_append_left _ r)
        rcases List.mem_append.mp hp with z | z
        · exact l.mo.apart p z q hq
        · rcases List.mem_append.mp z with z | z
          · rcases List.mem_cons.mp z with z | z
            · rw [z]; exact Ne.symm (apC q hq').1
            · exact Ne.symm ((apC q hq').2 p z)
          · exact em2.apart p z q ((List.mem_append.mp hq').elim (fun r => List.mem_append_left _ r) fun r => List.mem_append_right _ (List.mem_append_left _ r))
      · rcases led7 j w e with r | r | ⟨_, r⟩ | r
        · exact .inl r
        · exact .inr (.inl r)
        · exact .inr (.inr ⟨nt, r.mono fun p hp => (List.mem_append.mp hp).elim (fun z => List.mem_append_left _ z) fun z => List.mem_append_right _ (List.mem_append_right _ z)⟩)
        · refine .inr (.inr ⟨nt, LoudOk.mono (priv := priv') ?_ fun p hp => List.mem_append_right _ (List.mem_append_left _ (List.mem_cons_of_mem _ hp))⟩)
          rcases List.mem_cons.mp r with r | r
          · cases r
            exact hlo
          · exact (hsu _ r).2.2.1
    cases f with
    | next => obtain ⟨σ7, H7, I7, n7⟩ := q7; exact again I7 n7
    | cont => obtain ⟨σ7, H7, I7, n7⟩ := q7; exact again I7 n7
    | brk =>
      obtain ⟨σ7, H7, I7, nt, n7⟩ := q7
      exact left (f' := .next) (D' := D) nt ⟨σ7, H7, I7, n7⟩
    | ret u =>
      obtain ⟨x7, σ7, H7, I7, r7, nt, n7⟩ := q7
      exact left (f' := .ret u) (D' := D) nt ⟨x7, σ7, H7, I7, r7, n7⟩
  · -- the end
    have hii : i = items.length := Nat.le_antisymm l.le (Nat.le_of_not_lt hi)
    subst hii
    rw [List.drop_length] at wk
    refine pyNext_L (n := 0) hr.hd l.inv.nolimit hr.depth l.held.ownAt l.held.obj (by decide) l.held.st wk (fun r y it => ?_) fun v gd ll kk c p fs1 y itm hlt => ?_
    · obtain ⟨⟨r', er, hr'⟩, H', af, gcy⟩ := it
      cases er
      refine ⟨hr', fun h' hk' => ?_⟩
      obtain ⟨I4, led4, slp4, size4⟩ := turned .finished af gcy
      refine ⟨more, l.mo, ⟨σ3, H', Inv.kept (s := nog y) (t' := y.toks) I4 hk', wend σ3 H3 H' l.wi af.same⟩, slp4, fun j w e => ?_, size4⟩
      rcases led4 j w e with q | q | q | q
      · exact .inl q
      · exact .inr (.inl q)
      · exact .inr (.inr q)
      · cases List.mem_singleton.mp q
        exact .inl rfl
    · obtain ⟨⟨r', er, _⟩, _⟩ := itm
      cases er
end TF
/-! ## TfRules -/
/-! rules that the hand layer lacks -/
namespace TF
open PySem PySem.Spec PySem.W PyProof.Rows L2
open AutoSeq1 (wpAny_loadPart')
/-! ### max of a tuple -/
theorem iter_intTuple {prog : Program} {w : World} {A : Around} {E : Value → Shared → Prop} {s : Shared} {l : Addr} {its : Array Value} {Q : Value → Shared → Prop} (hl : s.heap.IsTuple l its)
    (h : ∀ s2 : Shared, s2 = { s with heap := s.heap.push { cls := .type "tuple_iterator", data := .fields #[.ref l, .int 0 0] } } → (s2.heap.IsTupleIter s.heap.objs.size l 0 ∧ s2.heap.IsTuple l its) → (∀ b ∈ [s.heap.objs.size, l], b < s2.heap.objs.size) → l ≠ s.heap.objs.size → Q (.ref s.heap.objs.size) s2) :
    wpAny (model prog w) A (pyIter (.ref l)) Q E s := by
  have hlt : l < s.heap.objs.size := by obtain ⟨_, e, _⟩ := hl; exact Heap.lt_size e
  have kp : ∀ b o, s.heap.get? b = some o → (s.heap.push { cls := .type "tuple_iterator", data := .fields #[.ref l, .int 0 0] }).get? b = some o := fun b o e => Heap.get?_push_of_some _ e
  refine wpAny_pyIter_tuple hl (h _ rfl ⟨⟨_, Heap.get?_push_size _ rfl, rfl, rfl⟩, hl.push _⟩ (fun b hb => ?_) (Nat.ne_of_lt hlt))
  show b < (s.heap.push _).objs.size
  rw [Heap.size_push]
  have e : b = s.heap.objs.size ∨ b = l := by simpa using hb
  rcases e with e | e
  · rw [e]; exact Nat.lt_succ_self _
  · rw [e]; exact Nat.lt_succ_of_lt hlt
theorem numAt_get {xs : Array (Int × Tok)} : ∀ i, numAt xs i = ((xs.toList.map (·.1)).getD i 0) := fun i => by
  unfold numAt
  rw [List.getD_eq_getElem?_getD, List.getElem?_map, Array.getElem?_toList]
def rMaxT (K : PySem.W.Frag) : List V → Hp → VK → Prop := fun vs H Q => ∃ (a : Addr) (ns : List Int), vs = [V.ref a] ∧ SqT K H a (ns.map V.int) ∧ 0 < ns.length ∧ ∀ m, m ∈ ns → (∀ y, y ∈ ns → y ≤ m) → Q (.int m) H
theorem intItems_of : ∀ {ns : List Int} {its : List Value}, Vals (ns.map V.int) its → ∃ xs : Array (Int × Tok), its.toArray = intItems xs ∧ xs.toList.map (·.1) = ns := by
  intro ns
  induction ns with
  | nil => intro its r; cases r; exact ⟨#[], by simp [intItems], rfl⟩
  | cons n ns ih =>
    intro its r
    cases r with
    | cons a b =>
      obtain ⟨t, rfl⟩ := a
      obtain ⟨xs, e, e2⟩ := ih b
      refine ⟨((n, t) :: xs.toList).toArray, ?_, ?_⟩
      · apply Array.toList_inj.mp
        have q := congrArg Array.toList e
        simp only [intItems, Array.toList_map] at q ⊢
        simp only [List.map_cons]
        rw [← q]
      · simp only [List.map_cons]
        rw [e2]
theorem cr_maxT {X : Cx} (hc : X.calm = true) : CallR X (.builtin "max") (rMaxT X.K) := by
  intro pins s σ H vs us Q I r h
  obtain ⟨a, ns, rfl, hs, hne, q⟩ := h
  obtain ⟨its, rv, hl, _⟩ := I.tuple hs
  rw [Vals.ref1 r]
  obtain ⟨xs, e, e2⟩ := intItems_of rv
  have hl' : s.heap.IsTuple a (intItems xs) := by rw [← e]; exact hl
  have hsz : 0 < xs.size := by
    have : (xs.toList.map (·.1)).length = ns.length := by rw [e2]
    rw [List.length_map, Array.length_toList] at this
    omega
  have hh := I.ok.hd hc
  refine call_max_walk (iter_intTuple hl' fun s2 e3 st hfp hne2 => ?_)
  subst e3
  refine ⟨_, _, _, _, _, _, _, rfl, Walks.tuple (A := X.A.in1) hh _ a hne2 (intItems xs), st, hfp, by simpa [intItems] using hsz, CmpOf.ints_gt (numAt xs) (fun _ _ => intItems_at), fun v h' tk hP hk => ?_⟩
  obtain ⟨t, rfl⟩ := intItems_at hP
  have hsz2 : (intItems xs).size = xs.size := by simp [intItems]
  rw [hsz2]
  obtain ⟨h1, h2⟩ := argBest_gt (numAt xs) (xs.size - 1)
  have kept : ∀ b o, s.heap.get? b = some o → h'.get? b = some o := fun b o e => by
    refine hk b o (fun hm => ?_) (Heap.get?_push_of_some _ e)
    rw [List.mem_singleton.mp hm] at e
    exact absurd (Heap.lt_size e) (Nat.lt_irrefl _)
  have memAt : ∀ i, i < xs.size → numAt xs i ∈ ns := fun i hi => by
    rw [numAt_get, e2]
    have hi2 : i < ns.length := by
      have : (xs.toList.map (·.1)).length = ns.length := by rw [e2]
      rw [List.length_map, Array.length_toList] at this
      omega
    rw [List.getD_eq_getElem?_getD, List.getElem?_eq_getElem hi2]
    exact List.getElem_mem hi2
  refine ⟨.int _, H, I.kept kept, ⟨t, rfl⟩, q _ (memAt _ (by omega)) fun y hy => ?_⟩
  obtain ⟨j, hj, hjy⟩ := List.mem_iff_getElem.mp hy
  have hj2 : j < xs.size := by
    have : (xs.toList.map (·.1)).length = ns.length := by rw [e2]
    rw [List.length_map, Array.length_toList] at this
    omega
  have hq := h2 j (by omega)
  have e4 : numAt xs j = y := by
    rw [numAt_get, e2, List.getD_eq_getElem?_getD, List.getElem?_eq_getElem hj, Option.getD_some, hjy]
  rw [e4] at hq
  exact hq
/-! ### enumerate of a tuple -/
set_option maxHeartbeats 4000000 in
theorem meets_enumerate_newT (l : Addr) (items : Array Value) :
    Meets (Builtin.«enumerate.__new__» ⟨[.type "enumerate", .ref l], []⟩) (fun _ R s => s.heap.IsTuple l items ∧
      R (.ok (.ret (.ref (s.heap.push { cls := .type "tuple_iterator", data := .fields #[.ref l, .int 0 0] }).objs.size)))
        { s with heap := (s.heap.push { cls := .type "tuple_iterator", data := .fields #[.ref l, .int 0 0] }).push { cls := .type "enumerate", data := .fields #[.none, .bool false, .ref s.heap.objs.size, rawInt 0, .none, .none] } }) :=
  .of_wp fun prog w A R s h => by
    obtain ⟨hp, g, d, tk, os⟩ := s; obtain ⟨hl, h⟩ := h
    have hsub := sub_enumerate
    have q1 : ∀ {A' : Around} {E : Value → Shared → Prop} {Q : Value → Shared → Prop}, Q (.ref hp.objs.size) ⟨hp.push { cls := .type "tuple_iterator", data := .fields #[.ref l, .int 0 0] }, g, d, tk, os⟩ → wpAny (model prog w) A' (pyIter (.ref l)) Q E ⟨hp, g, d, tk, os⟩ :=
      fun q => wpAny_pyIter_tuple hl q
    wp_walk using q1
    refine wpAny_stack_any fun st => wpAny_pure ?_
    split
    · rename_i c _ _ _ _ _
      cases (c == Value.type "enumerate")
      · wp_walk using q1
        exact ⟨_, rfl, h⟩
      · wp_walk using q1
        exact ⟨_, rfl, h⟩
    · wp_walk using q1
      exact ⟨_, rfl, h⟩
theorem call_enumerate_tup {prog : Program} {w : World} {A : Around} {E : Value → Shared → Prop} {s : Shared} {l : Addr} {items : Array Value} {Q : Value → Shared → Prop} (hL : s.heap.IsTuple l items)
    (h : ∀ h', IsEnum h' (s.heap.objs.size + 1) s.heap.objs.size 0 .none → h'.IsTupleIter s.heap.objs.size l 0 → (∀ b o, s.heap.get? b = some o → h'.get? b = some o) → Q (.ref (s.heap.objs.size + 1)) { s with heap := h' }) :
    wpAny (model prog w) A (call (.type "enumerate") [.ref l]) Q E s := by
  refine callType_new F.called_enumerate (by decide) (F.typeCall_enumerate_1 _) (F.newCall_enumerate_1 _) (fun obj => F.args_object_init_2 obj _) F.entry_enumerate_new (meets_enumerate_newT l items) ⟨hL, ?_⟩
  have hz : (s.heap.push { cls := .type "tuple_iterator", data := .fields #[.ref l, .int 0 0] }).objs.size = s.heap.objs.size + 1 := Heap.size_push ..
  show _ ∧ _
  rw [hz]
  have he : IsEnum ((s.heap.push { cls := .type "tuple_iterator", data := .fields #[.ref l, .int 0 0] }).push { cls := .type "enumerate", data := .fields #[.none, .bool false, .ref s.heap.objs.size, rawInt 0, .none, .none] }) (s.heap.objs.size + 1) s.heap.objs.size 0 .none := by
    have q := Heap.get?_push_size (s.heap.push { cls := .type "tuple_iterator", data := .fields #[.ref l, .int 0 0] }) (o := { cls := .type "enumerate", data := .fields #[.none, .bool false, .ref s.heap.objs.size, rawInt 0, .none, .none] }) rfl
    rw [hz] at q; exact q
  exact ⟨⟨_, he, rfl⟩, h _ he ⟨_, Heap.get?_push_of_some _ (Heap.get?_push_size _ rfl), rfl, rfl⟩ fun b o x => Heap.get?_push_of_some _ (Heap.get?_push_of_some _ x)⟩
def IteT (K : PySem.W.Frag) (a : Addr) : It :=
  ⟨fun i H => ∃ (xs : List V) (x : V), SqT K H a xs ∧ xs[i]? = some x, fun i H v H' => ∃ T x, v = .ref T ∧ H T = none ∧ H' = upd H T (.tup [.int (i : Nat), x]) ∧ ∀ xs, SqT K H a xs → xs[i]? = some x, fun i H => ∃ xs : List V, SqT K H a xs ∧ xs.length ≤ i⟩
theorem turn_enumT {P : Program} {w : World} {K : PySem.W.Frag} {elts : List Expr} {kk : Nat} {tpos : Pos} (a e it : Addr) :
    Turn P w K (.Tuple elts kk tpos) (IteT K a) [e, it] e (fun i h => (∃ old, IsEnum h e it ((i : Nat) : Int) old) ∧ h.IsTupleIter it a i ∧ e ≠ it ∧ a ≠ it ∧ a ≠ e) where
  mem := by simp
  obj := fun i h st b hb => by
    obtain ⟨⟨old, he⟩, ⟨o, ho, hc, hd⟩, _⟩ := st
    have e' : b = e ∨ b = it := by simpa using hb
    rcases e' with z | z
    · rw [z]; exact ⟨_, he, fun v q => nomatch q⟩
    · rw [z]; exact ⟨o, ho, fun v q => by rw [hd] at q; cases q⟩
  keep := fun i h h' st k => let ⟨⟨old, he⟩, hi, hne⟩ := st; ⟨⟨old, k e (by simp) _ he⟩, hi.at fun o q => k it (by simp) o q, hne⟩
  item := by
    intro X hP hw hK hc i pins s σ H E I hf st hg
    subst hP hw hK
    obtain ⟨⟨old, he⟩, hit, hne, hat, hae⟩ := st
    obtain ⟨xs, x, hq, hx⟩ := hg
    obtain ⟨its, rv, p, hz⟩ := I.tuple hq
    obtain ⟨u, hu, ru⟩ := rv.get hx
    have hel : e < s.heap.objs.size := Heap.lt_size he
    have hil : it < s.heap.objs.size := by obtain ⟨_, q, _⟩ := hit; exact Heap.lt_size q
    have hi : i < its.toArray.size := by
      rw [List.size_toArray]
      exact (List.getElem?_eq_some_iff.mp hu).1
    refine wpAny_pyNext_enum_itemD (P := fun i v => its.toArray[i]? = some v) (St := fun i h => h.IsTupleIter it a i ∧ h.IsTuple a its.toArray) (Draws.tuple (A := X.A.in1) (I.ok.hd hc) it a hat its.toArray) he ⟨hit, p⟩ hi hne (by simp [Ne.symm hne, hne, Ne.symm hae]) fun x' h' tk hP ho hst hT hsz hk => ?_
    have ex : x' = u := by
      have q : its.toArray[i]? = some u := by simpa using hu
      rw [q] at hP; cases hP; rfl
    subst ex
    refine ⟨_, rfl, wpAny_letOwnedTupleGo_enum (s := { s with heap := h', toks := tk + 1 }) ho fun h'' he' sb => ?_⟩
    have hT2 : h''.get? s.heap.objs.size = some { cls := .type "tuple", data := .seq #[.int i tk, x'] } := (sb.2 _ (Nat.ne_of_gt hel)).trans hT
    have new : ObjOk X.prog X.w (upd H s.heap.objs.size (.tup [.int (i : Nat), x])) h'' s.heap.objs.size (.tup [.int (i : Nat), x]) :=
      ⟨by show 2 ≤ sizeLine; decide, [.int i tk, x'], .cons ⟨_, rfl⟩ (.cons ru .nil), ⟨_, hT2, rfl, _, rfl⟩⟩
    have I1 : Inv X pins σ (upd H s.heap.objs.size (.tup [.int (i : Nat), x])) { s with heap := h'', toks := tk + 1 } :=
      I.turnedNew (ch := [e, it]) (fun b ob hb q => (sb.2 b (fun z => hb (by simp [z]))).trans (hk b ob (fun z => hb (by simp [z])) (fun z => hb (by simp [z])) q)) hf (Nat.le_refl _) new
    refine ⟨.ref s.heap.objs.size, _, I1, rfl, ⟨_, x, rfl, I.hok.fresh (Nat.le_refl _), rfl, fun ys hy => by rw [I.tuple_inj hy hq]; exact hx⟩, ⟨⟨x', ?_⟩, hst.1.at fun o q => (sb.2 it (Ne.symm hne)).trans q, hne, hat, hae⟩, fun b hb => ?_⟩
    · have e1 : ((i + 1 : Nat) : Int) = (i : Int) + 1 := by omega
      rw [e1]; exact he'
    · have hb' : b < s.heap.objs.size := by
        have e' : b = e ∨ b = it := by simpa using hb
        rcases e' with z | z
        · rw [z]; exact hel
        · rw [z]; exact hil
      rw [upd_ne (Nat.ne_of_lt hb')]
      exact (hf b hb).1
  done := by
    intro X hP hw hK hc i pins s σ H E I hf st hg
    subst hP hw hK
    obtain ⟨⟨old, he⟩, hit, hne, hat, hae⟩ := st
    obtain ⟨xs, hq, hx⟩ := hg
    obtain ⟨its, rv, p, hz⟩ := I.tuple hq
    obtain ⟨f0, f1, f2, f3, f4, f5⟩ := hf it (by simp)
    have hl := rv.length
    have hT : s.TypeIs (.ref e) "enumerate" := ⟨_, he, rfl⟩
    unfold pyNext
    refine wpAny_bind (wpAny_attempt (wpAny_callSpecial?_slot (name := Str.ofString "__next__") hT F.slot_enumerate_next (wpAny_call_entry F.slot_enumerate_next hT F.entry_enumerate_next ?_ (F.args_enumerate_next_1 _))))
    show wpAny _ _ (field (.ref e) 2 >>= _) _ _ _
    refine wpAny_bind (wpAny_field he rfl (x := .ref it) rfl ?_)
    refine wpAny_bind (wpAny_nextOf_tuple_end (I.ok.hd hc) hit p (by simp; omega) fun h' x he' hx' => ?_)
    obtain ⟨o, ho, hcl⟩ := hx'
    refine wpAny_bind (wpAny_isInstance (T := "StopIteration") (b := true) ⟨o, ho, hcl⟩ isSubtype_stop ?_)
    exact wpAny_pure ⟨rfl, I.turned (t' := s.toks) (fun b o hb q => he' b o hb q) f0 f1 f3 f4 f5⟩
  self := fun A i s Q E st h => let ⟨⟨_, he⟩, _⟩ := st; wpAny_pyIter_enum he h
def iEnumT (K : PySem.W.Frag) (ta : TA) : TI := fun σ H R => ta σ H fun vs H1 => ∃ a xs, vs = [.ref a] ∧ SqT K H1 a xs ∧ R (IteT K a) H1
theorem pi_enumT {X : Cx} {e : Expr} {ta : TA} {p pos tpos : Pos} {elts : List Expr} {kk : Nat} (hg : Gl X "enumerate") (hm : X.mg "enumerate" = none) (ha : PA X [e] ta) (hs : starEach [e] X.env = [(false, eval e X.env)] := by rfl) :
    PI X (.Tuple elts kk tpos) (.Call (.Name "enumerate" p) [e] [] pos) (iEnumT X.K ta) := by
  refine ⟨fun pins s σ H R I h => ?_⟩
  refine Call_ (ld_blt I hg hm boot_enumerate (PyProof.Rows.callWith_type1 (thn (ha.run pos pins s σ H _ I h) fun us s1 ⟨vs, H1, I1, r1, q1⟩ => ?_) hs rfl))
  obtain ⟨a, xs, ex, hq, q⟩ := q1
  subst ex
  cases r1 with
  | cons r rr =>
    cases rr
    cases r
    obtain ⟨its, rv, p', hz⟩ := I1.tuple hq
    have hal : a < s1.heap.objs.size := p'.lt
    refine call_enumerate_tup (show s1.heap.IsTuple a its.toArray from p') fun h' he hit hk => wpAny_pyIter_enum he ?_
    have I2 : Inv X pins σ H1 { s1 with heap := h' } := I1.kept (t' := s1.toks) hk
    refine ⟨s1.heap.objs.size + 1, [s1.heap.objs.size + 1, s1.heap.objs.size], _, _, H1, rfl, I2, turn_enumT a (s1.heap.objs.size + 1) s1.heap.objs.size, ⟨⟨.none, he⟩, hit, Nat.succ_ne_self _, Nat.ne_of_lt hal, Nat.ne_of_lt (Nat.lt_succ_of_lt hal)⟩, fun b hb => ?_, q⟩
    have e' : b = s1.heap.objs.size + 1 ∨ b = s1.heap.objs.size := by simpa using hb
    have hle : s1.heap.objs.size ≤ b := by
      rcases e' with z | z
      · rw [z]; exact Nat.le_add_right _ _
      · rw [z]; exact Nat.le_refl _
    exact I1.fpOk hle (I1.hok.fresh hle)
end TF
/-! ## TfRul2 -/
/-! == and != of instances with the text's own __eq__ -/
namespace TF
open PySem PySem.Spec PySem.W PyProof.Rows L2
section
variable {prog : Program} {w : World} {A : Around} {E : Value → Shared → Prop} {s : Shared} {K : PySem.W.Frag} {x C f : Addr} {ox : Obj} {od : Option Obj}
theorem ifBound_objNe {M : Model} {args : List Value} {Q : Option Value → Shared → Prop} (X : K.In s.heap) (I : PySem.W.InstAt s.heap x ox C od) (hs : PySem.W.findIn K (.ref C) "__ne__" = some (some (.builtin "object.__ne__")))
    (h : wpAny M A (call (.builtin "object.__ne__") (.ref x :: args)) (fun v => Q (some v)) E s) : wpAny M A (callSpecialIfBound? (.ref x) "__ne__" args) Q E s := by
  simp only [callSpecialIfBound?, bindSpecialIfBound?]
  refine wpAny_holding (wpAny_bind (wpAny_bind (wpAny_bind (I.type.here ((PySem.W.looks_findIn X hs).here ?_)))))
  refine wpAny_bind (wpAny_askSetting (wpAny_ite ?_))
  have last : wpAny M A (call (.builtin "object.__ne__") ([.ref x] ++ args) >>= fun v => pure (some v)) Q E s := wpAny_bind (wpAny_mono h (fun v s' q => wpAny_pure q) fun _ _ q => q)
  split
  · exact wpAny_bind (wpAny_of_eq (F.cmp_object.ne.bind _) (wpAny_pure (by exact last)))
  · exact wpAny_tryCatch (wpAny_bind (wpAny_of_eq (F.cmp_object.ne.bind _) (wpAny_pure (by exact last))))
theorem entry_objNe {y : Value} {Q : PySem.Fin → Shared → Prop} (hu : A.units < cLine) (X : K.In s.heap) (I : PySem.W.InstAt s.heap x ox C od) (hs : PySem.W.findIn K (.ref C) "__eq__" = some (some (.ref f))) (hf : PySem.W.isFn K (.ref f) = true)
    (h : wpAny (model prog w) A (call (.ref f) [.ref x, y]) (fun v s' => ∃ b, v = .bool b ∧ Q (.done (.ret (.bool (!b)))) s') E s) : wpAny (model prog w) A (Builtin.«object.__ne__» ⟨[.ref x, y], []⟩) Q E s := by
  unfold Builtin.«object.__ne__»
  show wpAny _ A (cRoomFor "comparison" [.ref x, y] >>= _) Q E s
  refine wpAny_bind (wpAny_cRoomFor hu ?_)
  refine wpAny_bind (PySem.W.ifBound_K X I hs hf (wpAny_mono h (fun v s' ⟨b, e, q⟩ => ?_) fun _ _ q => q))
  subst e
  exact wpAny_bind (wpAny_truthy_bool (wpAny_pure q))
theorem rc_ne {y C' : Addr} {Q : Value → Shared → Prop} (hu : A.units + 1 < cLine) (X : K.In s.heap) (I : PySem.W.InstAt s.heap x ox C od) (hb : PySem.W.Looks (model prog w) s.heap (typeOf (.ref y)) (.ref C)) (hm : PySem.W.mroIn K C (.type "object") = some true)
    (hs : PySem.W.findIn K (.ref C) "__eq__" = some (some (.ref f))) (hf : PySem.W.isFn K (.ref f) = true) (hn : PySem.W.findIn K (.ref C) "__ne__" = some (some (.builtin "object.__ne__")))
    (h : wpAny (model prog w) A.in1 (call (.ref f) [.ref x, .ref y]) (fun v s' => ∃ b, v = .bool b ∧ Q (.bool (!b)) s') E s) : wpAny (model prog w) A (richCompare .NotEq (.ref x) (.ref y)) Q E s := by
  have one : wpAny (model prog w) A (tryCompare (.ref x) "__ne__" (.ref y)) (fun r s' => ∃ v, r = some v ∧ Q v s') E s := by
    unfold tryCompare
    refine wpAny_bind (ifBound_objNe X I hn (wpAny_call (codeAny_call_builtin F.cmp_object.ne.plain F.cmpEntry_ne
      (PySem.W.check_slot F.cmpKind_ne F.cmpSplit_ne (I.type.andThen (PySem.W.looks_mroIn X hm)) (F.cmpArgs_ne _ _) (entry_objNe (A := A.in1) hu X I hs hf (wpAny_mono h (fun v s' ⟨b, e, q⟩ => ?_) fun _ _ q => q))))))
    subst e
    exact ⟨b, rfl, wpAny_pure ⟨_, rfl, q⟩⟩
  unfold richCompare
  simp only [oneThing_ref]
  refine wpAny_holding (wpAny_bind (wpAny_cRoomFor (Nat.lt_of_succ_lt hu) ?_))
  rw [cmpInfo_NotEq]
  refine wpAny_bind (I.type.here (wpAny_bind (hb.here ?_)))
  rw [show (Value.ref C != Value.ref C) = false from by simp]
  simp only [Bool.false_eq_true, if_false]
  refine wpAny_bind (wpAny_pure ?_)
  simp only [Bool.false_eq_true, if_false]
  refine wpAny_bind (wpAny_mono one (fun r s' z => ?_) fun _ _ q => q)
  obtain ⟨v, rfl, hq⟩ := z
  exact wpAny_pure hq
end
def rOwn (C : Addr) (sp : Sp) (neg : Bool) : R2 := fun x y H Q => ∃ a b dx dy fs gs, x = .ref a ∧ y = .ref b ∧ H a = some (.ins C dx fs) ∧ H b = some (.ins C dy gs) ∧ sp [.ref a, .ref b] H (fun v H' => ∃ c, v = .bl c ∧ Q (.bl (c != neg)) H') E0
section
variable {X : Cx} {n : Nat} {C f : Addr} {fd : FuncData} {ps : List Str} {sp : Sp}
/-- the call of the own __eq__ -/
theorem own_call (F : FnOk X.prog X.w X.K X.mg X.base CX0 n f fd ps sp) (hb : Binds X.K fd ps []) {A : Around} (hr : Room n A) (hA : A.frames = X.A.frames) {pins : List (Addr × Obj)} {s : Shared} {σ : L2.St} {H : Hp} {a b : Addr} {Q : VK} (I : Inv X pins σ H s) (h : sp [.ref a, .ref b] H Q E0) :
    wpAny (model X.prog X.w) A (call (.ref f) [.ref a, .ref b]) (fun u s' => ∃ z H', Inv X pins σ H' s' ∧ RelV z u ∧ Q z H') X.xe s := by
  have e0 : Env0 X.prog X.w X.K X.mg X.base A X.stack s H := by
    have e := I.env0
    exact ⟨by rw [hA]; exact e.frames, e.mod, e.bs, e.bsz, e.funs, e.frf, e.hok, e.bare⟩
  have hl := F.len _ _ _ _ h
  have r2 : Vals [V.ref a, V.ref b] [Value.ref a, Value.ref b] := .cons rfl (.cons rfl .nil)
  refine wpAny_call (codeAny_mono (F.run A X.stack s H ⟨[.ref a, .ref b], []⟩ [.ref a, .ref b] [.ref a, .ref b] Q E0 hr e0 (by
    have q := hb s [.ref a, .ref b] I.kIn (by simpa using hl)
    simpa using q) r2 h) fun r s' hq => ?_)
  cases r with
  | error e => exact hq.elim
  | ok fl =>
    cases fl with
    | ret u =>
      obtain ⟨z, H', I', rz, q⟩ := I.after hq
      exact ⟨z, H', I', rz, q⟩
    | next => exact False.elim hq
    | brk => exact False.elim hq
    | cont => exact False.elim hq
theorem op_eqOwn (F : FnOk X.prog X.w X.K X.mg X.base CX0 n f fd ps sp) (hr : Room n X.A) (hs : PySem.W.findIn X.K (.ref C) "__eq__" = some (some (.ref f))) (hf : PySem.W.isFn X.K (.ref f) = true) (hb : Binds X.K fd ps []) : OpR X (compareOp .Eq) (rOwn C sp false) := by
  intro pins s σ H x y v u Q I rx ry hq
  obtain ⟨a, b, dx, dy, fs, gs, rfl, rfl, ha, hb', hsp⟩ := hq
  cases rx
  cases ry
  obtain ⟨mA, J, _⟩ := ins_get I.hok ha
  obtain ⟨mB, J', _⟩ := ins_get I.hok hb'
  obtain ⟨od, J, _⟩ := J.look
  obtain ⟨od', J', _⟩ := J'.look
  obtain ⟨m, hF⟩ := I.fr
  show wpAny (model X.prog X.w) X.A (richCompare .Eq (.ref a) (.ref b)) (EP X pins σ Q) X.xe s
  refine PySem.W.cmp_K (op := .Eq) (tb := .ref C) hr.units0 hF I.ok.mod.kin J J'.type (by simp [PySem.W.notFirst]) hs hf (wpAny_mono (own_call F hb hr rfl I hsp) (fun u s' ⟨z, H', I', rz, c, e, q⟩ => ?_) fun _ _ q => q)
  subst e
  obtain rfl : u = Value.bool c := rz
  exact ⟨.bl c, H', I', rfl, by simpa using q⟩
theorem op_neOwn (F : FnOk X.prog X.w X.K X.mg X.base CX0 n f fd ps sp) (hr : Room (n + 1) X.A) (hs : PySem.W.findIn X.K (.ref C) "__eq__" = some (some (.ref f))) (hf : PySem.W.isFn X.K (.ref f) = true) (hb : Binds X.K fd ps [])
    (hm : PySem.W.mroIn X.K C (.type "object") = some true) (hn : PySem.W.findIn X.K (.ref C) "__ne__" = some (some (.builtin "object.__ne__"))) : OpR X (compareOp .NotEq) (rOwn C sp true) := by
  intro pins s σ H x y v u Q I rx ry hq
  obtain ⟨a, b, dx, dy, fs, gs, rfl, rfl, ha, hb', hsp⟩ := hq
  cases rx
  cases ry
  obtain ⟨mA, J, _⟩ := ins_get I.hok ha
  obtain ⟨mB, J', _⟩ := ins_get I.hok hb'
  obtain ⟨od, J, _⟩ := J.look
  obtain ⟨od', J', _⟩ := J'.look
  obtain ⟨m, hF⟩ := I.fr
  show wpAny (model X.prog X.w) X.A (richCompare .NotEq (.ref a) (.ref b)) (EP X pins σ Q) X.xe s
  refine rc_ne (C' := C) (by have := hr.units; omega) I.kIn J J'.type hm hs hf hn (wpAny_mono (own_call F hb (A := X.A.in1) hr.in1 rfl I hsp) (fun u s' ⟨z, H', I', rz, c, e, q⟩ => ?_) fun _ _ q => q)
  subst e
  obtain rfl : u = Value.bool c := rz
  exact ⟨c, rfl, .bl (!c), H', I', rfl, by cases c <;> simpa using q⟩
end
end TF
/-! ## TfRul3 -/
/-! sorted(xs) of lists of whole numbers -/
namespace TF
open PySem PySem.Spec PySem.W PyProof.Rows L2
def rSortRows (K : PySem.W.Frag) : List V → Hp → VK → Prop := fun vs H Q => ∃ (a : Addr) (rows : List (Addr × List Int)), vs = [V.ref a] ∧ SqL K H a (rows.map fun p => V.ref p.1) ∧ (∀ p ∈ rows, SqL K H p.1 (p.2.map V.int)) ∧
  ∀ p, H p = none → Q (.ref p) (upd H p (.lst ((rows.mergeSort fun p q => decide (p.2 ≤ q.2)).map fun p => V.ref p.1)))
theorem readsAll_ints {h : Heap} : ∀ {ns : List Int} {its : List Value}, Vals (ns.map V.int) its → ReadsAll h its (ns.map .int) [] := by
  intro ns
  induction ns with
  | nil => intro its r; cases r; exact .nil
  | cons n ns ih =>
    intro its r
    cases r with
    | cons a b =>
      obtain ⟨t, rfl⟩ := a
      exact ReadsAll.cons (as := []) (.int n t) (ih b)
theorem each_rows : ∀ {rows : List (Addr × List Int)} {its : List Value}, Vals (rows.map fun p => V.ref p.1) its → EachIs (fun v (p : Addr × List Int) => v = .ref p.1) its rows := by
  intro rows
  induction rows with
  | nil => intro its r; cases r; exact .nil
  | cons n ns ih =>
    intro its r
    cases r with
    | cons a b => exact .cons a (ih b)
theorem vals_rows : ∀ {rows : List (Addr × List Int)} {its : List Value}, EachIs (fun v (p : Addr × List Int) => v = .ref p.1) its rows → Vals (rows.map fun p => V.ref p.1) its := by
  intro rows
  induction rows with
  | nil => intro its r; cases r; exact .nil
  | cons n ns ih =>
    intro its r
    cases r with
    | cons a b => exact .cons a (ih b)
theorem each_all {α β : Type} {R R' : α → β → Prop} : ∀ {as : List α} {bs : List β}, EachIs R as bs → (∀ a b, b ∈ bs → R a b → R' a b) → EachIs R' as bs
  | _, _, .nil, _ => .nil
  | _, _, .cons h t, f => .cons (f _ _ List.mem_cons_self h) (each_all t fun a b hb => f a b (List.mem_cons_of_mem _ hb))
theorem cr_sortedRows {X : Cx} (hu : X.A.units + 16 < cLine) : CallR X (.builtin "sorted") (rSortRows X.K) := by
  intro pins s σ H vs us Q I r h
  obtain ⟨a, rows, rfl, hs, hrows, q⟩ := h
  obtain ⟨its, rv, hl, hz⟩ := I.list hs
  rw [Vals.ref1 r]
  have e := each_rows rv
  have er : EachIs (fun v (p : Addr × List Int) => ∃ as, Reads s.heap v (.list (p.2.map .int)) as) its rows := each_all e fun v p hp ev => by
    subst ev
    obtain ⟨its2, rv2, hl2, _⟩ := I.list (hrows p hp)
    obtain ⟨o, n, ho, hc, _, hd⟩ := hl2
    exact ⟨_, Reads.list ho hc hd (by simpa using readsAll_ints rv2)⟩
  refine sorted_data (enc := fun p : Addr × List Int => .list (p.2.map .int)) hl.isList e er (AllAlike.of fun b b' => by rw [alike]; exact alike_ints _ _) (Sortable.others (enc := fun p : Addr × List Int => PyData.list (p.2.map .int)) fun b => ⟨(fun z => by cases z), (fun xs z => by cases z)⟩) (by rw [List.length_map] at hz; exact hz) (fun b _ => ?_) fun out ho eo => ?_
  · show X.A.units + 2 + PyData.depth (.list (b.2.map .int)) < cLine
    rw [PyData.depth, depth_ints]
    omega
  rw [dataLe_rows (fun p : Addr × List Int => p.2)] at eo
  obtain ⟨ep, he'⟩ := PyProof.Rows.sortedAll_at s.heap its out.toArray
  have hlen : ((rows.mergeSort fun p q => decide (p.2 ≤ q.2)).map fun p => V.ref p.1).length ≤ sizeLine := by
    rw [List.length_map, List.length_mergeSort]
    rw [List.length_map] at hz
    exact hz
  exact ⟨.ref _, upd H (s.heap.objs.size + 1) (.lst ((rows.mergeSort fun p q => decide (p.2 ≤ q.2)).map fun p => V.ref p.1)), I.laid (t' := s.toks) (fun _ _ => PyProof.Rows.sortedAll_old) (Nat.le_succ _) ⟨hlen, out, ep, vals_rows eo, he'⟩, rfl, q _ (I.hok.fresh (Nat.le_succ _))⟩
end TF
/-! ## TfTxt -/
/-! the program's text -/
namespace TF
open PySem PySem.Spec PySem.W PyProof.Rows L2
def topS (i : Nat) : Stmt := PySem.Challenge.pw_triplefree_k44_whole_cells_listed.main.body.getD i (.Pass ⟨0, 0, 0, 0⟩)
abbrev sIsInt : Stmt := topS 11
abbrev sBetween : Stmt := topS 13
abbrev sShape : Stmt := topS 14
abbrev sSpoil : Stmt := topS 15
abbrev sServing : Stmt := topS 16
abbrev sUnserved : Stmt := topS 17
abbrev sCell : Stmt := topS 18
abbrev sInit : Stmt := inClass sCell 2
abbrev sModulus : Stmt := inClass sCell 3
abbrev sMembers : Stmt := inClass sCell 4
abbrev sEq : Stmt := inClass sCell 13
abbrev sIsCell : Stmt := topS 21
abbrev sGrown : Stmt := topS 22
abbrev sCellsOf : Stmt := topS 23
abbrev sBegun : Stmt := topS 25
abbrev sDraw : Stmt := topS 26
abbrev sFault : Stmt := topS 27
abbrev sSets : Stmt := topS 28
abbrev sListed : Stmt := topS 29
abbrev sRight : Stmt := topS 30
abbrev sProducts : Stmt := topS 31
abbrev sLaw : Stmt := topS 32
def nm : Stmt → Option Str
  | .FunctionDef n _ _ _ _ _ _ _ _ _ => some n
  | .ClassDef n _ _ _ _ _ _ _ _ _ _ => some n
  | _ => none
theorem scBetween : FnScope ["value", "low", "high"] ["value", "low", "high"] (defScope sBetween) := ⟨rfl, rfl, rfl, by decide +kernel, rfl, by decide +kernel, by decide +kernel⟩
theorem scShape : FnScope ["modulus", "members", "before", "index", "member"] ["modulus", "members"] (defScope sShape) := ⟨rfl, rfl, rfl, by decide +kernel, rfl, by decide +kernel, by decide +kernel⟩
theorem scSpoil : FnScope ["modulus", "members", "known", "low", "middle", "high", "member"] ["modulus", "members"] (defScope sSpoil) := ⟨rfl, rfl, rfl, by decide +kernel, rfl, by decide +kernel, by decide +kernel⟩
theorem scServing : FnScope ["modulus", "members", "found", "most", "low", "middle", "carry", "rest"] ["modulus", "members"] (defScope sServing) := ⟨rfl, rfl, rfl, by decide +kernel, rfl, by decide +kernel, by decide +kernel⟩
theorem scUnserved : FnScope ["modulus", "members", "table", "known", "rest", "member"] ["modulus", "members", "table"] (defScope sUnserved) := ⟨rfl, rfl, rfl, by decide +kernel, rfl, by decide +kernel, by decide +kernel⟩
theorem scInit : FnScope ["self", "modulus", "members", "triple", "rest", "member"] ["self", "modulus", "members"] (defScope sInit) := ⟨rfl, rfl, rfl, by decide +kernel, rfl, by decide +kernel, by decide +kernel⟩
theorem scModulus : FnScope ["self"] ["self"] (defScope sModulus) := ⟨rfl, rfl, rfl, by decide +kernel, rfl, by decide +kernel, by decide +kernel⟩
theorem scMembers : FnScope ["self"] ["self"] (defScope sMembers) := ⟨rfl, rfl, rfl, by decide +kernel, rfl, by decide +kernel, by decide +kernel⟩
theorem scEq : FnScope ["self", "other"] ["self", "other"] (defScope sEq) := ⟨rfl, rfl, rfl, by decide +kernel, rfl, by decide +kernel, by decide +kernel⟩
theorem scIsCell : FnScope ["modulus", "members"] ["modulus", "members"] (defScope sIsCell) := ⟨rfl, rfl, rfl, by decide +kernel, rfl, by decide +kernel, by decide +kernel⟩
theorem scGrown : GScope ["modulus", "members", "first", "member"] ["modulus", "members"] (defScope sGrown) := ⟨rfl, rfl, rfl, by decide +kernel, rfl, by decide +kernel, by decide +kernel⟩
theorem scCellsOf : GScope ["modulus"] ["modulus"] (defScope sCellsOf) := ⟨rfl, rfl, rfl, by decide +kernel, rfl, by decide +kernel, by decide +kernel⟩
theorem scBegun : FnScope ["_law_script", "_law_part"] ["_law_script"] (defScope sBegun) := ⟨rfl, rfl, rfl, by decide +kernel, rfl, by decide +kernel, by decide +kernel⟩
theorem scDraw : FnScope ["_law_m", "_law_top", "_law_k", "_law_spot", "_law_part", "_law_mixed"] ["_law_m", "_law_top"] (defScope sDraw) := ⟨rfl, rfl, rfl, by decide +kernel, rfl, by decide +kernel, by decide +kernel⟩
theorem scFault : FnScope ["_law_n", "_law_row", "_law_inside", "_law_served", "_law_low", "_law_middle", "_law_left", "_law_one", "_law_r"] ["_law_n", "_law_row"] (defScope sFault) := ⟨rfl, rfl, rfl, by decide +kernel, rfl, by decide +kernel, by decide +kernel⟩
theorem scSets : FnScope ["_law_n", "_law_found", "_law_r", "_law_row"] ["_law_n"] (defScope sSets) := ⟨rfl, rfl, rfl, by decide +kernel, rfl, by decide +kernel, by decide +kernel⟩
theorem scListed : FnScope ["_law_n", "_law_found", "_law_box"] ["_law_n"] (defScope sListed) := ⟨rfl, rfl, rfl, by decide +kernel, rfl, by decide +kernel, by decide +kernel⟩
theorem scRight : FnScope ["_law_n", "_law_due", "_law_row"] ["_law_n"] (defScope sRight) := ⟨rfl, rfl, rfl, by decide +kernel, rfl, by decide +kernel, by decide +kernel⟩
theorem scProducts : FnScope ["_law_n", "_law_found", "_law_row", "_law_far", "_law_a"] ["_law_n"] (defScope sProducts) := ⟨rfl, rfl, rfl, by decide +kernel, rfl, by decide +kernel, by decide +kernel⟩
theorem scLaw : FnScope ["_law_script", "_law_m", "_law_turn", "_law_n", "_law_box", "_law_far"] ["_law_script"] (defScope sLaw) := ⟨rfl, rfl, rfl, by decide +kernel, rfl, by decide +kernel, by decide +kernel⟩
end TF
/-! ## TfP1 -/
/-! the plain defs: is_between, spoiling_triple -/
namespace TF
open PySem PySem.Spec PySem.W PyProof.Rows L2
/-- built-in names that the text leaves alone -/
structure Bi (mg : Str → Option Value) : Prop where
  isinstance : mg "isinstance" = none
  int : mg "int" = none
  bool : mg "bool" = none
  tuple : mg "tuple" = none
  list : mg "list" = none
  len : mg "len" = none
  enumerate : mg "enumerate" = none
  max : mg "max" = none
  min : mg "min" = none
  range : mg "range" = none
  sorted : mg "sorted" = none
  dict : mg "dict" = none
theorem same_upd {H : Hp} {p : Addr} {o : HO} (h : H p = none) : Same H (upd H p o) := fun b x e => by
  rw [upd_ne (ne_of_none e h)]; exact e
section
variable {P : Program} {w : World} {K : PySem.W.Frag} {mg : Str → Option Value} {base : Heap}
def spBetween : Sp := fun vs H Q _ => ∃ v lo hi : Int, vs = [.int v, .int lo, .int hi] ∧ Q (.bl (decide (lo ≤ v) && decide (v ≤ hi))) H
theorem ok_between {f : Addr} {fd : FuncData} {k : Nat} (F : Fun K "is_between" "is_between" sBetween f fd) (B : Bi mg) : FnOk P w K mg base CX0 (k + 1) f fd ["value", "low", "high"] spBetween := by
  refine F.ok scBetween (fun vs H Q E h => ?_) (fun cdv A outer s H vs Q E hr h => ?_)
  · obtain ⟨v, lo, hi, rfl, _⟩ := h
    rfl
  · obtain ⟨v, lo, hi, rfl, q⟩ := h
    refine ⟨_, pss_one (ps_ret (pe_and (pe_callB call_isi (by rfl) B.isinstance (by decide +kernel) (pa_cons (pv 0) (pa_cons (pe_bltn (v := .ty "int") (by rfl) B.int (by decide +kernel) rfl) pa_nil)))
      (pe_and (pe_not (pe_callB call_isi (by rfl) B.isinstance (by decide +kernel) (pa_cons (pv 0) (pa_cons (pe_bltn (v := .ty "bool") (by rfl) B.bool (by decide +kernel) rfl) pa_nil))))
        (pe_one (pe_chain op_le op_le (pv 1) (pv 0) (pv 2)))))), ?_⟩
    refine ⟨_, rfl, .int v, .ty "int", .type "int", .type "int", true, rfl, .ty _, .base (.int v), kit_ty (by decide +kernel), true, rfl, iteT ?_⟩
    refine ⟨_, rfl, .int v, .ty "bool", .type "int", .type "bool", false, rfl, .ty _, .base (.int v), kit_ty (by decide +kernel), false, rfl, true, rfl, iteT ?_⟩
    refine ⟨_, rfl, _, rfl, _, _, rfl, rfl, _, rfl, ?_⟩
    by_cases h1 : lo ≤ v
    · rw [decide_eq_true h1]
      refine iteT ⟨_, rfl, _, _, rfl, rfl, ?_⟩
      rw [decide_eq_true h1] at q
      simpa using q
    · rw [decide_eq_false h1]
      refine iteF ?_
      rw [decide_eq_false h1] at q
      simpa using q
end
end TF
/-! ## TfRul4 -/
/-! name = {k: v for ..} on one line; the dict of a tuple's members -/
namespace TF
open PySem PySem.Spec PySem.W PyProof.Rows L2
section
variable {X : Cx}
theorem ps_setDc {i : Nat} {y : Str} {py : Pos} {kx vx tg iter : Expr} {ifs : List Expr} {scope : Scope} {own : List (Str × Nat)} {pos spos : Pos} {wi : TI} {g : TG} {tt : TT} {tk tv : TE} (hc : X.calm = true) (hN : X.N.Nodup) (hy : X.N[i]? = some y) (hyl : X.env.scope.names.lookup y = some .local)
    (hsw : swapsWith (.DictComp kx vx [⟨tg, iter, ifs, 0⟩] scope pos) (some (.Name y py)) spos.line X.env = pure true) (hi : PI X tg iter wi) (ok : BlkOk X.N X.env.scope scope own)
    (hg : ∀ (s : Shared) (H : Hp) (C : Addr) (cl : List (Str × Addr)) (fp : List Addr), PG (X.blk s H scope (compEnvC scope cl C X.env) fp) tg g) (ht : ∀ (s : Shared) (H : Hp) (C : Addr) (cl : List (Str × Addr)) (fp : List Addr), PTs (X.blk s H scope (compEnvC scope cl C X.env) fp) ifs tt)
    (hk : ∀ (s : Shared) (H : Hp) (C : Addr) (cl : List (Str × Addr)) (fp : List Addr), PE (X.blk s H scope (compEnvC scope cl C X.env) fp) kx tk) (he : ∀ (s : Shared) (H : Hp) (C : Addr) (cl : List (Str × Addr)) (fp : List Addr), PE (X.blk s H scope (compEnvC scope cl C X.env) fp) vx tv)
    (hs : ∀ x, foldedSetIterable iter X.env x = pure x := by intro _; rfl) :
    PS X (.Assign [.Name y py] (.DictComp kx vx [⟨tg, iter, ifs, 0⟩] scope pos) spos) (tAsg (tDc wi g tt tk tv (own.map (·.2))) (gName i)) := by
  refine ⟨fun pins s σ H D I h => ?_⟩
  rw [exec_Assign_Name_used _ _ _ _ hsw]
  refine wpAny_bind (wpAny_standAt (wpAny_bind ?_))
  show wpAny _ X.A (do let _ ← comprehension (.DictComp kx vx [⟨tg, iter, ifs, 0⟩] scope pos) scope X.env (firstIterPos [⟨tg, iter, ifs, 0⟩] pos) newDict false (eval iter X.env) (some (assign (.Name y py) X.env))) _ _ s
  have h2 : tDc wi g tt tk tv (own.map (·.2)) σ H (fun x H1 => gName i x σ H1 D.nx) := h
  refine wpAny_bind (thn (dc_core (Qf := fun _ z => SP X pins D .next z) hc hN I hi ok hg ht hk he hs h2 fun Da C z m H' I' q hn f => ?_) fun _ z hq => wpAny_pure (wpAny_pure hq))
  show wpAny _ _ (assign (.Name y py) X.env (.ref Da)) _ _ _
  refine wpAny_assign_Name (store_ok2 (v := V.ref Da) I' hN hy (.inl hyl) rfl (fun z2 I2 ⟨a, sb, ha⟩ => ?_) (.inr hyl))
  obtain ⟨f0, f1, f2, f3, f4, f5⟩ := f
  have haC : C ≠ a := by
    rcases ha with e | e
    · rw [e]; exact f1
    · exact fun e' => f4 y a e e'.symm
  refine ⟨m, hn.sameBut sb haC, fun h3 sb3 => ?_⟩
  exact ⟨_, H', I2.turned (t' := z2.toks) (fun b o hb e => (sb3.2 b hb).trans e) f0 f1 f3 f4 f5, q⟩
theorem sw_trueD {kx vx : Expr} {gs : List Comprehension} {scope : Scope} {pos py : Pos} {y : Str} {l : Nat} {env : Env} (hk : env.scope.kind = .function) (hy : env.scope.names.lookup y = some .local) (hl : (py.line == pos.line) = true)
    (ha : (scope.names.any fun (n, k) => n == y && (k == .local || k == .cell)) = false) : swapsWith (.DictComp kx vx gs scope pos) (some (.Name y py)) l env = pure true := by
  have ky : env.kindOf y = some .local := hy
  have hb : env.blockKind = .function := by unfold Env.blockKind; rw [hk]; rfl
  unfold swapsWith
  simp only [hb, ky, ha, Expr.pos, hl]
  rfl
end
/-- the dict at d has the keys that S tells, at most n -/
def KeysAt (H : Hp) (d : Addr) (S : Int → Bool) (n : Nat) : Prop := ∃ kvs, H d = some (.dK kvs) ∧ kvs.length ≤ n ∧ ∀ k : Int, (valV kvs (Sum.inl k : Key)).isSome = S k
theorem KeysAt.same {H H' : Hp} {d : Addr} {S : Int → Bool} {n : Nat} (h : KeysAt H d S n) (s : Same H H') : KeysAt H' d S n := let ⟨kvs, a, b⟩ := h; ⟨kvs, s _ _ a, b⟩
theorem putK_len {κ : Type} [DecidableEq κ] (kvs : List (κ × V)) (k : κ) (v : V) : (putK kvs k v).length ≤ kvs.length + 1 := by
  unfold putK
  split
  · rw [List.length_map]; omega
  · rw [List.length_append]; simp
theorem keys_put {kvs : List (Key × V)} {k : Int} {v : V} {S : Int → Bool} (h : ∀ j : Int, (valV kvs (Sum.inl j : Key)).isSome = S j) : ∀ j : Int, (valV (putK kvs (Sum.inl k : Key) v) (Sum.inl j)).isSome = (decide (j = k) || S j) := fun j => by
  rw [valV_put]
  by_cases e : j = k
  · subst e; simp
  · have e' : ¬ (Sum.inl j : Key) = Sum.inl k := fun z => e (Sum.inl.inj z)
    rw [if_neg e', h j, decide_eq_false e]; rfl
theorem take_contains {ms : List Int} {i : Nat} {x : Int} (h : ms[i]? = some x) (j : Int) : (ms.take (i + 1)).contains j = (decide (j = x) || (ms.take i).contains j) := by
  rw [List.take_add_one, h]
  show (ms.take i ++ [x]).contains j = _
  rw [List.contains_eq_any_beq, List.any_append, ← List.contains_eq_any_beq, Bool.or_comm]
  congr 1
  simp [List.any_cons, List.any_nil]
  by_cases e : j = x
  · subst e; simp
  · have : ¬ x = j := fun z => e z.symm
    simp [e, this]
theorem dc_known {K : PySem.W.Frag} {a : Addr} {ms : List Int} {σ : L2.St} {H1 : Hp} {D : Addr} {Qd : Hp → Prop} {i : Nat} {vs : List Nat} (hS : SqT K H1 a (ms.map V.int)) (nD : H1 D = none) (hl : ms.length ≤ 1000) (hw : ∀ x, wipe ((wipe σ vs).set i (some x)) vs = wipe σ vs ∧ ((wipe σ vs).set i (some x))[i]? = some (some x))
    (hQ : ∀ H', Same H1 H' → KeysAt H' D ms.contains ms.length → Qd H') :
    ∃ W : Nat → Nat → Hp → Prop, (∃ m, W 0 m (upd H1 D (.dK []))) ∧ ∀ n m H, W n m H →
      ((Itt K a).stop n H ∧ Qd H) ∨ ((Itt K a).go n H ∧ ∃ Nx : Hp → Prop, (∀ H', Nx H' → ∃ m', m' < m ∧ W (n + 1) m' H') ∧ ∀ x H', (Itt K a).yld n H x H' → gName i x (wipe σ vs) H' fun σ2 H2 => wipe σ2 vs = wipe σ vs ∧ tYes σ2 H2 fun b H3 =>
        if b = true then tVar i σ2 H3 fun y H4 => tC (.bl true) σ2 H4 fun z H5 => ∃ kvs k, y = kV k ∧ H5 D = some (.dK kvs) ∧ kvs.length < sizeLine ∧ Nx (upd H5 D (.dK (putK kvs k z))) else Nx H3) := by
  have sD : ∀ {H' : Hp} {o : HO}, Same H1 H' → Same H1 (upd H' D o) := fun s b u e => by
    rw [upd_ne (ne_of_none e nD)]
    exact s b u e
  refine dc_tup (K := K) (a := a) (xs := ms.map V.int) (fun n H' => Same H1 H' ∧ ∃ kvs, H' D = some (.dK kvs) ∧ kvs.length ≤ n ∧ ∀ k : Int, (valV kvs (Sum.inl k : Key)).isSome = (ms.take n).contains k)
    ⟨same_upd nD, [], upd_same, Nat.le_refl _, fun k => rfl⟩ (fun n H' _ p => ?_) (fun n x H' hx p => ?_) fun H' p => ?_
  · rcases hS with (h | ⟨o, h⟩) | h
    · exact .inl (.inl (p.1 _ _ h))
    · exact .inl (.inr ⟨o, p.1 _ _ h⟩)
    · exact .inr h
  · obtain ⟨sm, kvs, e, hk, hkeys⟩ := p
    rw [List.getElem?_map] at hx
    obtain ⟨z, hz, rfl⟩ := Option.map_eq_some_iff.mp hx
    obtain ⟨w1, w2⟩ := hw (.int z)
    have hn : n < ms.length := (List.getElem?_eq_some_iff.mp hz).1
    refine ⟨w1, ?_⟩
    unfold tYes
    dsimp only
    rw [if_pos rfl]
    refine ⟨_, w2, ?_⟩
    refine ⟨kvs, .inl z, rfl, e, small1000 (by omega), sD sm, _, upd_same, Nat.le_trans (putK_len _ _ _) (by omega), fun j => ?_⟩
    rw [keys_put hkeys, take_contains hz]
  · obtain ⟨sm, kvs, e, hk, hkeys⟩ := p
    rw [List.length_map] at hk
    refine hQ H' sm ⟨kvs, e, hk, fun k => ?_⟩
    rw [hkeys k, List.length_map, List.take_length]
end TF
/-! ## TfP2 -/
/-! spoiling_triple -/
namespace TF
open PySem PySem.Spec PySem.W PyProof.Rows L2
def clash (n : Int) (ms : List Int) (low mid : Int) : Bool := !decide (low = mid) && ms.contains ((2 * mid - low) % n)
def freeB (n : Int) (ms : List Int) : Bool := ms.all fun low => ms.all fun mid => !clash n ms low mid
theorem all_take {α : Type} {p : α → Bool} {xs : List α} {i : Nat} {x : α} (h : xs[i]? = some x) (a : (xs.take i).all p = true) (b : p x = true) : (xs.take (i + 1)).all p = true := by
  rw [List.take_add_one, h]
  show (xs.take i ++ [x]).all p = true
  rw [List.all_append, a]
  simp [b]
theorem not_free {n : Int} {ms : List Int} {low mid : Int} (h1 : low ∈ ms) (h2 : mid ∈ ms) (h : clash n ms low mid = true) : freeB n ms = false := by
  cases e : freeB n ms with
  | false => rfl
  | true =>
    unfold freeB at e
    have := List.all_eq_true.mp (List.all_eq_true.mp e low h1) mid h2
    rw [h] at this
    cases this
theorem mem_of_get {ms : List Int} {i : Nat} {x : V} (h : (ms.map V.int)[i]? = some x) : ∃ z, x = .int z ∧ ms[i]? = some z ∧ z ∈ ms := by
  rw [List.getElem?_map] at h
  obtain ⟨z, hz, rfl⟩ := Option.map_eq_some_iff.mp h
  exact ⟨z, rfl, hz, List.mem_of_getElem? hz⟩
theorem SqT.same {K : PySem.W.Frag} {H H' : Hp} {a : Addr} {xs : List V} (h : SqT K H a xs) (s : Same H H') : SqT K H' a xs := SqT.ext h s
section
variable {P : Program} {w : World} {K : PySem.W.Frag} {mg : Str → Option Value} {base : Heap}
def spSpoil (K : PySem.W.Frag) : Sp := fun vs H Q _ => ∃ (n : Int) (a : Addr) (ms : List Int), vs = [.int n, .ref a] ∧ 0 < n ∧ SqT K H a (ms.map V.int) ∧ ms.length ≤ 1000 ∧ (∀ H', Same H H' → freeB n ms = true → Q .non H') ∧ ∀ H' p, Same H H' → freeB n ms = false → Q (.ref p) H'
theorem ok_spoil {f : Addr} {fd : FuncData} {k : Nat} (F : Fun K "spoiling_triple" "spoiling_triple" sSpoil f fd) : FnOk P w K mg base CX0 (k + 1) f fd ["modulus", "members"] (spSpoil K) := by
  refine F.ok scSpoil (fun vs H Q E h => ?_) (fun cdv A outer s H vs Q E hr h => ?_)
  · obtain ⟨n, a, ms, rfl, _⟩ := h
    rfl
  · obtain ⟨n, a, ms, rfl, hn, hS, hl, q1, q2⟩ := h
    have hu := hu_of hr
    refine ⟨_, pss_cons (ps_setDc (i := 2) (own := [("member", 6)]) (g := gName 6) (tt := tYes) rfl scSpoil.nd rfl rfl (sw_trueD rfl rfl rfl (by decide +kernel)) (pi_tup (pv 1)) (blkOk_by (own := [("member", 6)]) (N := ["modulus", "members", "known", "low", "middle", "high", "member"]) (sc := defScope sSpoil) (by decide +kernel))
        (fun _ _ _ _ _ => pg_name (i := 6) scSpoil.nd rfl (Or.inl rfl)) (fun _ _ _ _ _ => pts_nil) (fun _ _ _ _ _ => pv 6) (fun _ _ _ _ _ => pe_bl))
      (pss_cons (ps_for PassesOwn.never rfl (pi_tup (pv 1)) (pg_name (i := 3) scSpoil.nd rfl (Or.inl rfl))
        (pss_one (ps_for PassesOwn.never rfl (pi_tup (pv 1)) (pg_name (i := 4) scSpoil.nd rfl (Or.inl rfl))
          (pss_cons (ps_set (i := 5) scSpoil.nd rfl (Or.inl rfl) (pe_op op_mod (pe_op op_sub (pe_op op_mul pe_int (pv 4)) (pv 3)) (pv 0)))
            (pss_one (ps_if (PW.pt (pw_and (pt_cmpR op_ne (pv 3) (pv 4) (nomark _)) (pw_and1 (pt_cmp (pc_din hu (pv 5) (pv 2))))))
              (pss_one (ps_ret (pe_tup (pa_cons (pv 3) (pa_cons (pv 4) (pa_cons (pv 5) pa_nil)))))) pss_nil))))))
      (pss_one (ps_ret pe_non))), ?_⟩
    refine ⟨_, rfl, a, rfl, ⟨_, hS⟩, fun D nD => dc_known hS nD hl (fun x => ⟨rfl, rfl⟩) fun H1 s1 kD => ?_⟩
    refine ⟨_, rfl, a, rfl, ⟨_, SqT.same hS s1⟩, for_tup (xs := ms.map V.int) (fun i σ H2 => ∃ y3 y4 y5 y6, σ = [some (.int n), some (.ref a), some (.ref D), y3, y4, y5, y6] ∧ Same H H2 ∧ KeysAt H2 D ms.contains ms.length ∧ (ms.take i).all (fun low => ms.all fun mid => !clash n ms low mid) = true)
      ⟨_, _, _, _, rfl, s1, kD, rfl⟩ (fun i σ H2 _ p => ?_) (fun i x σ H2 hx p => ?_) fun σ H2 p => ?_⟩
    · obtain ⟨_, _, _, _, _, s2, _⟩ := p
      exact SqT.same hS s2
    · obtain ⟨y3, y4, y5, y6, rfl, s2, k2, al⟩ := p
      obtain ⟨low, rfl, hlow, mlow⟩ := mem_of_get hx
      refine ⟨_, rfl, a, rfl, ⟨_, SqT.same hS s2⟩, for_tup (xs := ms.map V.int) (fun j σ H3 => ∃ y4 y5 y6, σ = [some (.int n), some (.ref a), some (.ref D), some (.int low), y4, y5, y6] ∧ Same H H3 ∧ KeysAt H3 D ms.contains ms.length ∧ (ms.take j).all (fun mid => !clash n ms low mid) = true)
        ⟨_, _, _, rfl, s2, k2, rfl⟩ (fun j σ H3 _ p => ?_) (fun j x σ H3 hx p => ?_) fun σ H3 p => ?_⟩
      · obtain ⟨_, _, _, _, s3, _⟩ := p
        exact SqT.same hS s3
      · obtain ⟨z4, z5, z6, rfl, s3, k3, al3⟩ := p
        obtain ⟨mid, rfl, hmid, mmid⟩ := mem_of_get hx
        refine ⟨_, rfl, _, _, rfl, rfl, .inl ⟨by decide, by decide⟩, _, rfl, _, _, rfl, rfl, _, rfl, _, _, rfl, rfl, hn, ?_⟩
        refine ⟨_, rfl, _, rfl, rfl, _, rfl, ?_⟩
        have done : clash n ms low mid = false → ∃ y4 y5 y6, [some (V.int n), some (V.ref a), some (V.ref D), some (V.int low), some (V.int mid), some (V.int ((2 * mid - low) % n)), z6] = [some (.int n), some (.ref a), some (.ref D), some (.int low), y4, y5, y6] ∧ Same H H3 ∧ KeysAt H3 D ms.contains ms.length ∧ (ms.take (j + 1)).all (fun mid => !clash n ms low mid) = true :=
          fun hc => ⟨_, _, _, rfl, s3, k3, all_take hmid al3 (by rw [hc]; rfl)⟩
        by_cases e : low = mid
        · have e' : (!decide (V.int low = V.int mid)) = false := by rw [e]; simp
          rw [e']
          refine iteF ?_
          refine iteF (done ?_)
          unfold clash
          rw [decide_eq_true e]; rfl
        · have e' : (!decide (V.int low = V.int mid)) = true := by
            have : ¬ V.int low = V.int mid := fun z => e (V.int.inj z)
            rw [decide_eq_false this]; rfl
          rw [e']
          refine iteT ?_
          obtain ⟨kvs, hD, hk, hkeys⟩ := k3
          refine ⟨_, rfl, _, rfl, D, _, rfl, DGet.k (k := Sum.inl ((2 * mid - low) % n)) hD, _, rfl, ?_⟩
          rw [hkeys]
          cases ec : ms.contains ((2 * mid - low) % n) with
          | true =>
            refine iteT ⟨_, rfl, _, rfl, _, rfl, by show 3 ≤ sizeLine; decide, fun p np => q2 _ p ?_ (not_free mlow mmid ?_)⟩
            · exact s3.trans (same_upd np)
            · unfold clash
              rw [decide_eq_false e, ec]; rfl
          | false =>
            refine iteF (done ?_)
            unfold clash
            rw [ec, Bool.and_false]
      · obtain ⟨z4, z5, z6, rfl, s3, k3, al3⟩ := p
        rw [List.length_map, List.take_length] at al3
        exact ⟨_, _, _, _, rfl, s3, k3, all_take hlow al al3⟩
    · obtain ⟨y3, y4, y5, y6, rfl, s2, k2, al⟩ := p
      rw [List.length_map, List.take_length] at al
      exact q1 _ s2 al
end
end TF
/-! ## TfP3 -/
/-! serving_table, unserved_remainder -/
namespace TF
open PySem PySem.Spec PySem.W PyProof.Rows L2
def servC (n mx low mid : Int) : Bool := decide (low < mid) && (decide ((2 * mid - low) / n = 0) || decide ((2 * mid - low) % n < mx))
def servR (n mx low k mid : Int) : Bool := servC n mx low mid && decide (k = (2 * mid - low) % n)
def servK (n mx : Int) (ms : List Int) (k : Int) : Bool := ms.any fun low => ms.any fun mid => servR n mx low k mid
/-- the dict at d: its keys S, each value a tuple whose first is a number -/
def TabAt (H : Hp) (d : Addr) (S : Int → Bool) (m : Nat) : Prop := ∃ kvs, H d = some (.dK kvs) ∧ kvs.length ≤ m ∧ (∀ k : Int, (valV kvs (Sum.inl k : Key)).isSome = S k) ∧ ∀ (k : Int) (v : V), valV kvs (Sum.inl k : Key) = some v → ∃ t c r, v = .ref t ∧ H t = some (.tup (.int c :: r))
theorem TabAt.same {H H' : Hp} {d : Addr} {S : Int → Bool} {m : Nat} (h : TabAt H d S m) (s : Same H H') : TabAt H' d S m := by
  obtain ⟨kvs, e, hk, hS, hv⟩ := h
  exact ⟨kvs, s _ _ e, hk, hS, fun k v q => let ⟨t, c, r, e1, e2⟩ := hv k v q; ⟨t, c, r, e1, s _ _ e2⟩⟩
theorem TabAt.keys {H : Hp} {d : Addr} {S : Int → Bool} {m : Nat} (h : TabAt H d S m) : KeysAt H d S m := let ⟨kvs, e, hk, hS, _⟩ := h; ⟨kvs, e, hk, hS⟩
theorem any_take {α : Type} {p : α → Bool} {xs : List α} {i : Nat} {x : α} (h : xs[i]? = some x) : (xs.take (i + 1)).any p = ((xs.take i).any p || p x) := by
  rw [List.take_add_one, h]
  show (xs.take i ++ [x]).any p = _
  rw [List.any_append]; simp
theorem cutP {B G : Prop} (f : B → G) (b : B) : G := f b
section
variable {P : Program} {w : World} {K : PySem.W.Frag} {mg : Str → Option Value} {base : Heap}
def spServing (K : PySem.W.Frag) : Sp := fun vs H Q _ => ∃ (n : Int) (a : Addr) (ms : List Int), vs = [.int n, .ref a] ∧ 0 < n ∧ n ≤ 1000 ∧ SqT K H a (ms.map V.int) ∧ 0 < ms.length ∧ ms.length ≤ 30 ∧
  ∀ H' d mx, Same H H' → H d = none → mx ∈ ms → (∀ y ∈ ms, y ≤ mx) → TabAt H' d (servK n mx ms) 1000 → Q (.ref d) H'
theorem ok_serving {f : Addr} {fd : FuncData} {k : Nat} (F : Fun K "serving_table" "serving_table" sServing f fd) (B : Bi mg) : FnOk P w K mg base CX0 (k + 1) f fd ["modulus", "members"] (spServing K) := by
  refine F.ok scServing (fun vs H Q E h => ?_) (fun cdv A outer s H vs Q E hr h => ?_)
  · obtain ⟨n, a, ms, rfl, _⟩ := h
    rfl
  · obtain ⟨n, a, ms, rfl, hn, hn2, hS, hl0, hl, q⟩ := h
    have hu := hu_of hr
    refine ⟨_, pss_cons (ps_par (i := 2) (j := 3) rfl scServing.nd rfl rfl (by decide) rfl rfl (pa_cons pe_dnewK (pa_cons (pe_callB (cr_maxT rfl) (by rfl) B.max (by decide +kernel) (pa_cons (pv 1) pa_nil)) pa_nil)) (by rfl))
      (pss_cons (ps_for PassesOwn.never rfl (pi_tup (pv 1)) (pg_name (i := 4) scServing.nd rfl (Or.inl rfl))
        (pss_one (ps_for PassesOwn.never rfl (pi_tup (pv 1)) (pg_name (i := 5) scServing.nd rfl (Or.inl rfl))
          (pss_cons (ps_par (i := 6) (j := 7) rfl scServing.nd rfl rfl (by decide) rfl rfl (pa_cons (pe_op op_fdiv (pe_op op_sub (pe_op op_mul pe_int (pv 5)) (pv 4)) (pv 0)) (pa_cons (pe_op op_mod (pe_op op_sub (pe_op op_mul pe_int (pv 5)) (pv 4)) (pv 0)) pa_nil)) (by rfl))
            (pss_one (ps_if (PW.pt (pw_and (pt_cmpR op_lt (pv 4) (pv 5) (nomark _)) (pw_and1 (PW.pt (pw_or (pt_cmpR op_eq (pv 6) pe_int (nomark _)) (pw_or1 (pt_cmpR op_lt (pv 7) (pv 3) (nomark _))))))))
              (pss_one (ps_if (PW.pt (pw_or (pt_cmp (pc_dnotin hu (pv 7) (pv 2))) (pw_or1 (pt_cmpR op_lt (pv 6) (pe_ix ix_tup (pe_dget hu (pv 2) (pv 7) (fun _ _ => rfl)) pe_int (fun _ _ => rfl)) (nomark _)))))
                (pss_one (ps_dput hu (pv 2) (pv 7) (pe_tup (pa_cons (pv 6) (pa_cons (pv 4) (pa_cons (pv 5) pa_nil)))) rfl)) pss_nil)) pss_nil))))))
      (pss_one (ps_ret (pv 2)))), ?_⟩
    refine fun d nd => ⟨_, rfl, a, ms, rfl, SqT.same hS (same_upd nd), hl0, fun mx hmx hle => ⟨_, _, rfl, ?_⟩⟩
    have s0 : Same H (upd H d (.dK [])) := same_upd nd
    refine ⟨_, rfl, a, rfl, ⟨_, SqT.same hS s0⟩, for_tup (xs := ms.map V.int) (fun i σ H2 => ∃ y4 y5 y6 y7, σ = [some (.int n), some (.ref a), some (.ref d), some (.int mx), y4, y5, y6, y7] ∧ Same H H2 ∧ TabAt H2 d (fun k => (ms.take i).any fun low => ms.any fun mid => servR n mx low k mid) (i * ms.length))
      ⟨_, _, _, _, rfl, s0, [], upd_same, Nat.zero_le _, fun k => rfl, fun k v e => by cases e⟩ (fun i σ H2 _ p => ?_) (fun i x σ H2 hx p => ?_) fun σ H2 p => ?_⟩
    · obtain ⟨_, _, _, _, _, s2, _⟩ := p
      exact SqT.same hS s2
    · obtain ⟨y4, y5, y6, y7, rfl, s2, t2⟩ := p
      obtain ⟨low, rfl, hlow, mlow⟩ := mem_of_get hx
      refine ⟨_, rfl, a, rfl, ⟨_, SqT.same hS s2⟩, for_tup (xs := ms.map V.int) (fun j σ H3 => ∃ y5 y6 y7, σ = [some (.int n), some (.ref a), some (.ref d), some (.int mx), some (.int low), y5, y6, y7] ∧ Same H H3 ∧
        TabAt H3 d (fun k => ((ms.take i).any fun low => ms.any fun mid => servR n mx low k mid) || (ms.take j).any fun mid => servR n mx low k mid) (i * ms.length + j))
        ⟨_, _, _, rfl, s2, by simpa using t2⟩ (fun j σ H3 _ p => ?_) (fun j x σ H3 hx p => ?_) fun σ H3 p => ?_⟩
      · obtain ⟨_, _, _, _, s3, _⟩ := p
        exact SqT.same hS s3
      · obtain ⟨z5, z6, z7, rfl, s3, t3⟩ := p
        obtain ⟨mid, rfl, hmid, mmid⟩ := mem_of_get hx
        have hi : i < ms.length := (List.getElem?_eq_some_iff.mp hlow).1
        have hj : j < ms.length := (List.getElem?_eq_some_iff.mp hmid).1
        have hij : i * ms.length + j < 1000 := by
          have : i * ms.length ≤ 29 * 30 := Nat.mul_le_mul (by omega) hl
          omega
        refine ⟨_, rfl, _, _, rfl, rfl, .inl ⟨by decide, by decide⟩, _, rfl, _, _, rfl, rfl, _, rfl, _, _, rfl, rfl, ⟨hn, by omega⟩, _, rfl, _, _, rfl, rfl, .inl ⟨by decide, by decide⟩, _, rfl, _, _, rfl, rfl, _, rfl, _, _, rfl, rfl, hn, _, _, rfl, ?_⟩
        have skip : ∀ {Hx : Hp}, Same H Hx → TabAt Hx d (fun k => ((ms.take i).any fun low => ms.any fun mid => servR n mx low k mid) || (ms.take j).any fun mid => servR n mx low k mid) (i * ms.length + j) →
            (∀ k, servR n mx low k mid = true → (((ms.take i).any fun low => ms.any fun mid => servR n mx low k mid) || (ms.take j).any fun mid => servR n mx low k mid) = true) →
            ∃ y5 y6 y7, [some (V.int n), some (V.ref a), some (V.ref d), some (V.int mx), some (V.int low), some (V.int mid), some (V.int ((2 * mid - low) / n)), some (V.int ((2 * mid - low) % n))] = [some (.int n), some (.ref a), some (.ref d), some (.int mx), some (.int low), y5, y6, y7] ∧ Same H Hx ∧
              TabAt Hx d (fun k => ((ms.take i).any fun low => ms.any fun mid => servR n mx low k mid) || (ms.take (j + 1)).any fun mid => servR n mx low k mid) (i * ms.length + (j + 1)) := by
          intro Hx sx ⟨kvs, e, hk, hS, hv⟩ hb
          refine ⟨_, _, _, rfl, sx, kvs, e, by omega, fun k => ?_, hv⟩
          rw [hS k]
          dsimp only
          rw [any_take hmid]
          cases h1 : servR n mx low k mid with
          | false => simp
          | true =>
            have hbk := hb k h1
            rw [hbk, ← Bool.or_assoc, hbk]; rfl
        have no : servC n mx low mid = false → ∀ k, servR n mx low k mid = true → (((ms.take i).any fun low => ms.any fun mid => servR n mx low k mid) || (ms.take j).any fun mid => servR n mx low k mid) = true := fun hcc k h => by
          unfold servR at h
          rw [hcc] at h
          cases h
        refine ⟨_, rfl, _, rfl, _, _, rfl, rfl, _, rfl, ?_⟩
        by_cases h1 : low < mid
        · rw [decide_eq_true h1]
          refine iteT ?_
          refine ⟨_, rfl, rfl, _, rfl, ?_⟩
          by_cases hsc : servC n mx low mid = true
          · apply cutP
            · intro body
              by_cases e1 : (2 * mid - low) / n = 0
              · have e1' : decide (V.int ((2 * mid - low) / n) = V.int 0) = true := decide_eq_true (by rw [e1])
                rw [e1']
                refine iteT (iteT ?_)
                exact body
              · have e1' : decide (V.int ((2 * mid - low) / n) = V.int 0) = false := decide_eq_false fun z => e1 (V.int.inj z)
                rw [e1']
                have e2 : (2 * mid - low) % n < mx := by
                  unfold servC at hsc
                  rw [decide_eq_true h1, decide_eq_false e1] at hsc
                  simpa using hsc
                refine iteF ⟨_, rfl, _, rfl, _, _, rfl, rfl, _, rfl, ?_⟩
                rw [decide_eq_true e2]
                refine iteT ?_
                exact body
            · skip
              obtain ⟨kvs, e, hk, hS2, hv⟩ := t3
              refine ⟨_, rfl, _, rfl, d, _, rfl, DGet.k (k := Sum.inl ((2 * mid - low) % n)) e, _, rfl, ?_⟩
              have hbk : servR n mx low ((2 * mid - low) % n) mid = true := by
                unfold servR
                rw [hsc]; simp
              have putted : ∀ p, H3 p = none → Same H (upd (upd H3 p (.tup [.int ((2 * mid - low) / n), .int low, .int mid])) d (.dK (putK kvs (Sum.inl ((2 * mid - low) % n)) (.ref p)))) ∧
                  TabAt (upd (upd H3 p (.tup [.int ((2 * mid - low) / n), .int low, .int mid])) d (.dK (putK kvs (Sum.inl ((2 * mid - low) % n)) (.ref p)))) d (fun k => ((ms.take i).any fun low => ms.any fun mid => servR n mx low k mid) || (ms.take (j + 1)).any fun mid => servR n mx low k mid) (i * ms.length + (j + 1)) := by
                intro p np
                have npd : p ≠ d := fun z => by rw [z, e] at np; cases np
                refine ⟨fun b u eb => ?_, _, upd_same, Nat.le_trans (putK_len _ _ _) (by omega), fun k => ?_, fun k v ev => ?_⟩
                · rw [upd_ne (ne_of_none eb nd)]
                  exact s3.trans (same_upd np) b u eb
                · rw [keys_put hS2]
                  dsimp only
                  rw [any_take hmid]
                  unfold servR
                  rw [hsc]
                  cases ((ms.take i).any fun low => ms.any fun mid => servC n mx low mid && decide (k = (2 * mid - low) % n)) <;> cases ((ms.take j).any fun mid => servC n mx low mid && decide (k = (2 * mid - low) % n)) <;> cases decide (k = (2 * mid - low) % n) <;> rfl
                · rw [valV_put] at ev
                  by_cases ek : (Sum.inl k : Key) = Sum.inl ((2 * mid - low) % n)
                  · rw [if_pos ek] at ev
                    cases ev
                    exact ⟨p, _, _, rfl, by rw [upd_ne npd, upd_same]⟩
                  · rw [if_neg ek] at ev
                    obtain ⟨t, c, r, e1, e2⟩ := hv k v ev
                    refine ⟨t, c, r, e1, ?_⟩
                    have td : t ≠ d := fun z => by rw [z, e] at e2; cases e2
                    rw [upd_ne td, upd_ne (ne_of_none e2 np)]
                    exact e2
              cases ev : valV kvs (Sum.inl ((2 * mid - low) % n)) with
              | none =>
                refine iteT (iteT ⟨_, rfl, _, rfl, _, rfl, by show 3 ≤ sizeLine; decide, fun p np => ⟨_, rfl, _, rfl, d, _, rfl, DPut.k (k := Sum.inl ((2 * mid - low) % n)) (kvs := kvs) ?_ (Nat.lt_of_le_of_lt (Nat.le_trans hk (Nat.le_of_lt hij)) (by decide)), ?_⟩⟩)
                · rw [upd_ne (fun z => by rw [← z, e] at np; cases np)]
                  exact e
                · obtain ⟨p1, p2⟩ := putted p np
                  exact ⟨_, _, _, rfl, p1, p2⟩
              | some v =>
                obtain ⟨t, c, r, rfl, et⟩ := hv _ _ ev
                refine iteF ⟨_, rfl, _, rfl, _, rfl, d, _, rfl, by rw [← ev]; exact DGet.k (k := Sum.inl ((2 * mid - low) % n)) e, t, _, 0, .int c, rfl, rfl, .inl (.inl et), (atI_nat (xs := V.int c :: r) (j := 0) (v := V.int c) rfl), _, _, rfl, rfl, _, rfl, ?_⟩
                by_cases e3 : (2 * mid - low) / n < c
                · rw [decide_eq_true e3]
                  refine iteT ⟨_, rfl, _, rfl, _, rfl, by show 3 ≤ sizeLine; decide, fun p np => ⟨_, rfl, _, rfl, d, _, rfl, DPut.k (k := Sum.inl ((2 * mid - low) % n)) (kvs := kvs) ?_ (Nat.lt_of_le_of_lt (Nat.le_trans hk (Nat.le_of_lt hij)) (by decide)), ?_⟩⟩
                  · rw [upd_ne (fun z => by rw [← z, e] at np; cases np)]
                    exact e
                  · obtain ⟨p1, p2⟩ := putted p np
                    exact ⟨_, _, _, rfl, p1, p2⟩
                · rw [decide_eq_false e3]
                  refine iteF (skip s3 ⟨kvs, e, hk, hS2, hv⟩ fun k hkk => ?_)
                  have ekk : k = (2 * mid - low) % n := by
                    unfold servR at hkk
                    rw [Bool.and_eq_true] at hkk
                    exact of_decide_eq_true hkk.2
                  have z := hS2 ((2 * mid - low) % n)
                  rw [ev] at z
                  rw [ekk]
                  exact z.symm
          · have e1 : ¬ (2 * mid - low) / n = 0 := fun z => hsc (by
              unfold servC
              rw [decide_eq_true h1, decide_eq_true z]; rfl)
            have e2 : ¬ (2 * mid - low) % n < mx := fun z => hsc (by
              unfold servC
              rw [decide_eq_true h1, decide_eq_true z, Bool.or_true]; rfl)
            have e1' : decide (V.int ((2 * mid - low) / n) = V.int 0) = false := decide_eq_false fun z => e1 (V.int.inj z)
            rw [e1']
            refine iteF ⟨_, rfl, _, rfl, _, _, rfl, rfl, _, rfl, ?_⟩
            rw [decide_eq_false e2]
            refine iteF (skip s3 t3 (no ?_))
            cases e : servC n mx low mid with
            | false => rfl
            | true => exact absurd e hsc
        · rw [decide_eq_false h1]
          refine iteF (iteF (skip s3 t3 (no ?_)))
          unfold servC
          rw [decide_eq_false h1]; rfl
      · obtain ⟨z5, z6, z7, rfl, s3, t3⟩ := p
        rw [List.length_map, List.take_length] at t3
        refine ⟨_, _, _, _, rfl, s3, ?_⟩
        obtain ⟨kvs, e, hk, hS, hv⟩ := t3
        refine ⟨kvs, e, by rw [Nat.succ_mul]; exact hk, fun k => ?_, hv⟩
        rw [hS k]
        dsimp only
        rw [any_take hlow]
    · obtain ⟨y4, y5, y6, y7, rfl, s2, t2⟩ := p
      rw [List.length_map, List.take_length] at t2
      refine ⟨_, rfl, q H2 d mx s2 nd hmx hle ?_⟩
      obtain ⟨kvs, e, hk, hS, hv⟩ := t2
      refine ⟨kvs, e, Nat.le_trans hk ?_, hS, hv⟩
      exact Nat.le_trans (Nat.mul_le_mul hl hl) (by decide)
end
end TF
/-! ## TfP4 -/
/-! unserved_remainder, check_shape -/
namespace TF
open PySem PySem.Spec PySem.W PyProof.Rows L2
def coverB (n : Int) (ms : List Int) (S : Int → Bool) : Bool := (List.range n.toNat).all fun r => ms.contains (r : Int) || S (r : Int)
/-- rising within b .. n -/
def up (n : Int) : Int → List Int → Prop
  | _, [] => True
  | b, x :: r => b < x ∧ x < n ∧ up n x r
theorem range_take {n i : Nat} (h : i < n) : (List.range n)[i]? = some i := by simp [h]
section
variable {P : Program} {w : World} {K : PySem.W.Frag} {mg : Str → Option Value} {base : Heap}
def spUnserved (K : PySem.W.Frag) : Sp := fun vs H Q _ => ∃ (n : Int) (a t : Addr) (ms : List Int) (S : Int → Bool) (m : Nat), vs = [.int n, .ref a, .ref t] ∧ 0 < n ∧ n ≤ 1000 ∧ SqT K H a (ms.map V.int) ∧ ms.length ≤ 1000 ∧ KeysAt H t S m ∧
  (∀ H', Same H H' → coverB n ms S = true → Q .non H') ∧ ∀ H' r, Same H H' → coverB n ms S = false → Q (.int r) H'
theorem ok_unserved {f : Addr} {fd : FuncData} {k : Nat} (F : Fun K "unserved_remainder" "unserved_remainder" sUnserved f fd) (B : Bi mg) : FnOk P w K mg base CX0 (k + 1) f fd ["modulus", "members", "table"] (spUnserved K) := by
  refine F.ok scUnserved (fun vs H Q E h => ?_) (fun cdv A outer s H vs Q E hr h => ?_)
  · obtain ⟨n, a, t, ms, S, m, rfl, _⟩ := h
    rfl
  · obtain ⟨n, a, t, ms, S, m, rfl, hn, hn2, hS, hl, hK, q1, q2⟩ := h
    have hu := hu_of hr
    refine ⟨_, pss_cons (ps_setDc (i := 3) (own := [("member", 5)]) (g := gName 5) (tt := tYes) rfl scUnserved.nd rfl rfl (sw_trueD rfl rfl rfl (by decide +kernel)) (pi_tup (pv 1)) (blkOk_by (own := [("member", 5)]) (N := ["modulus", "members", "table", "known", "rest", "member"]) (sc := defScope sUnserved) (by decide +kernel))
        (fun _ _ _ _ _ => pg_name (i := 5) scUnserved.nd rfl (Or.inl rfl)) (fun _ _ _ _ _ => pts_nil) (fun _ _ _ _ _ => pv 5) (fun _ _ _ _ _ => pe_bl))
      (pss_cons (ps_for PassesOwn.never rfl (pi_range1 (by rfl) B.range (pa_cons (pv 0) pa_nil)) (pg_name (i := 4) scUnserved.nd rfl (Or.inl rfl))
        (pss_one (ps_if (PW.pt (pw_and (pt_cmp (pc_dnotin hu (pv 4) (pv 3))) (pw_and1 (pt_cmp (pc_dnotin hu (pv 4) (pv 2)))))) (pss_one (ps_ret (pv 4))) pss_nil)))
      (pss_one (ps_ret pe_non))), ?_⟩
    refine ⟨_, rfl, a, rfl, ⟨_, hS⟩, fun D nD => dc_known hS nD hl (fun x => ⟨rfl, rfl⟩) fun H1 s1 kD => ?_⟩
    refine ⟨_, rfl, n, rfl, by omega, by omega, for_range (lo := 0) (n := n.toNat) (fun i σ H2 => ∃ y4 y5, σ = [some (.int n), some (.ref a), some (.ref t), some (.ref D), y4, y5] ∧ Same H H2 ∧ KeysAt H2 D ms.contains ms.length ∧ ((List.range n.toNat).take i).all (fun r => ms.contains (r : Int) || S (r : Int)) = true)
      ⟨_, _, rfl, s1, kD, rfl⟩ (fun i σ H2 hi p => ?_) fun σ H2 p => ?_⟩
    · obtain ⟨y4, y5, rfl, s2, k2, al⟩ := p
      have k3 := hK.same s2
      obtain ⟨kvs, e, hk, hS1⟩ := k2
      obtain ⟨kvt, et, hkt, hS2⟩ := k3
      have e0 : ((0 : Int) + (i : Int)) = (i : Int) := by omega
      rw [e0]
      refine ⟨_, rfl, _, rfl, D, _, rfl, DGet.k (k := Sum.inl (i : Int)) e, _, rfl, ?_⟩
      rw [hS1]
      cases c1 : ms.contains (i : Int) with
      | true =>
        refine iteF (iteF ⟨_, _, rfl, s2, ⟨kvs, e, hk, hS1⟩, all_take (range_take hi) al ?_⟩)
        rw [c1]; rfl
      | false =>
        refine iteT ⟨_, rfl, _, rfl, t, _, rfl, DGet.k (k := Sum.inl (i : Int)) et, _, rfl, ?_⟩
        rw [hS2]
        cases c2 : S (i : Int) with
        | true =>
          refine iteF ⟨_, _, rfl, s2, ⟨kvs, e, hk, hS1⟩, all_take (range_take hi) al ?_⟩
          rw [c1, c2]; rfl
        | false =>
          refine iteT ⟨_, rfl, q2 H2 _ s2 ?_⟩
          cases ec : coverB n ms S with
          | false => rfl
          | true =>
            unfold coverB at ec
            have := List.all_eq_true.mp ec i (List.mem_range.mpr hi)
            rw [c1, c2] at this
            cases this
    · obtain ⟨y4, y5, rfl, s2, k2, al⟩ := p
      refine q1 H2 s2 ?_
      unfold coverB
      rw [List.take_of_length_le (by simp)] at al
      exact al
theorem iteN {c : Bool} {Y Z : Prop} (h : c = true) (z : Z) : if (!c) = true then Y else Z := by
  subst h
  exact iteF z
theorem iteP {c : Bool} {Y Z : Prop} (h : c = true) (y : Y) : if c = true then Y else Z := by
  rw [if_pos h]
  exact y
theorem iteQ {c : Bool} {Y Z : Prop} (h : c = false) (z : Z) : if c = true then Y else Z := by
  subst h
  exact iteF z
/-- the class's facts -/
structure TC (K : PySem.W.Frag) (mg : Str → Option Value) (C : Addr) : Prop where
  cl : Cls K C
  mgC : mg "Cell" = some (.ref C)
  rd : ∃ mc, ClX.CRead K C mc ∧ (∃ u, ClX.CVal K C mc "MAX_MODULUS" (.int 20000) u) ∧ ∃ u, ClX.CVal K C mc "MAX_MEMBERS" (.int 256) u
  nTable : NoAttr K C "table"
  nMod : NoAttr K C "own_modulus"
  nMem : NoAttr K C "own_members"
  nKnown : NoAttr K C "known"
  isC : PySem.W.kitOne K (.ref C) (.ref C) = some true
  ha : PySem.W.findIn K (.ref C) "__class__" = some (some (.builtin "object.__class__"))
  hn : PySem.W.specialIn K (.builtin "object.__class__") "__get__" = some (some (.builtin "getset_descriptor.__get__"))
  htk : PySem.W.takesIn K (.builtin "object.__class__") = some true
  hm : PySem.W.mroIn K C (.type "object") = some true
def spShape (K : PySem.W.Frag) : Sp := fun vs H Q _ => ∃ (n : Int) (a : Addr) (ms : List Int), vs = [.int n, .ref a] ∧ 0 < n ∧ n ≤ 1000 ∧ SqT K H a (ms.map V.int) ∧ 0 < ms.length ∧ ms.length ≤ 200 ∧ up n (-1) ms ∧ ∀ H', Same H H' → Q .non H'
theorem up_drop {n : Int} {ms : List Int} {i : Nat} {b x : Int} (h : up n b (ms.drop i)) (e : ms[i]? = some x) : b < x ∧ x < n ∧ up n x (ms.drop (i + 1)) := by
  have hi : i < ms.length := (List.getElem?_eq_some_iff.mp e).1
  have ex : ms[i] = x := (List.getElem?_eq_some_iff.mp e).2
  rw [List.drop_eq_getElem_cons hi, ex] at h
  exact h
theorem ok_shape {f fB C : Addr} {fd fdB : FuncData} {k : Nat} (F : Fun K "check_shape" "check_shape" sShape f fd) (B : Bi mg) (T : TC K mg C) (FB : Fun K "is_between" "is_between" sBetween fB fdB) (bB : Binds K fdB ["value", "low", "high"] []) (gB : mg "is_between" = some (.ref fB)) :
    FnOk P w K mg base CX0 (k + 2) f fd ["modulus", "members"] (spShape K) := by
  have GB : FnOk P w K mg base CX0 (k + 1) fB fdB ["value", "low", "high"] spBetween := ok_between FB B
  obtain ⟨mc, rd, ⟨um, hmm⟩, ux, hmx⟩ := T.rd
  refine F.ok scShape (fun vs H Q E h => ?_) (fun cdv A outer s H vs Q E hr h => ?_)
  · obtain ⟨n, a, ms, rfl, _⟩ := h
    rfl
  · obtain ⟨n, a, ms, rfl, hn, hn2, hS, hl0, hl, hup, q⟩ := h
    refine ⟨_, pss_cons (ps_if (pt_not (pt_val (pe_call GB hr (by rfl) gB FB.kp bB .nil pass0 (pa_cons (pv 0) (pa_cons pe_int (pa_cons (ClX.pe_cval (pe_glob (v := .ref C) (by rfl) T.mgC rfl)) pa_nil)))))) (pss_one ps_never) pss_nil)
      (pss_cons (ps_if (PW.pt (pw_or (pt_not (pt_val (pe_isiTL (pv 1) (by rfl) B.isinstance (pa_cons (pe_bltn (v := .ty "tuple") (by rfl) B.tuple (by decide +kernel) rfl) (pa_cons (pe_bltn (v := .ty "list") (by rfl) B.list (by decide +kernel) rfl) pa_nil)))))
          (pw_or1 (pt_not (pt_chain op_le op_le pe_int (pe_callB call_len_seq (by rfl) B.len PySem.boot_len (pa_cons (pv 1) pa_nil)) (ClX.pe_cval (pe_glob (v := .ref C) (by rfl) T.mgC rfl))))))) (pss_one ps_never) pss_nil)
      (pss_cons (ps_set (i := 2) scShape.nd rfl (Or.inl rfl) (pe_un un_neg pe_int))
      (pss_one (ps_for PassesOwn.never rfl (pi_enumT (by rfl) B.enumerate (pa_cons (pv 1) pa_nil)) (pg_tup rfl (pgs_cons (pg_name (i := 3) scShape.nd rfl (Or.inl rfl)) (pgs_cons (pg_name (i := 4) scShape.nd rfl (Or.inl rfl)) pgs_nil)))
        (pss_cons (ps_if (pt_not (pt_val (pe_call GB hr (by rfl) gB FB.kp bB .nil pass0 (pa_cons (pv 4) (pa_cons (pe_op op_add (pv 2) pe_int) (pa_cons (pe_op op_sub (pv 0) pe_int) pa_nil)))))) (pss_one ps_never) pss_nil)
          (pss_one (ps_set (i := 2) scShape.nd rfl (Or.inl rfl) (pv 4)))))))), ?_⟩
    refine ⟨_, rfl, C, mc, _, _, rfl, rd, hmm, n, 1, 20000, rfl, _, rfl, ?_⟩
    refine iteN (by rw [decide_eq_true (by omega), decide_eq_true (by omega)]; rfl) ?_
    refine ⟨_, rfl, ⟨a, _, rfl, hS⟩, fun T0 nT => ⟨_, rfl, iteF ?_⟩⟩
    have s1 : Same H (upd H T0 (.tup [.ty "tuple", .ty "list"])) := same_upd nT
    refine ⟨_, rfl, a, _, rfl, .inr (SqT.same hS s1), _, _, rfl, rfl, _, rfl, ?_⟩
    refine iteP (decide_eq_true (by rw [List.length_map]; omega)) ⟨C, mc, _, _, rfl, rd, hmx, _, _, rfl, rfl, _, rfl, ?_⟩
    refine iteN (decide_eq_true (by rw [List.length_map]; omega)) ?_
    refine ⟨1, rfl, ?_⟩
    refine ⟨_, rfl, a, _, rfl, SqT.same hS s1, ?_⟩
    refine ⟨fun i m σ H2 => ∃ b y3 y4, σ = [some (.int n), some (.ref a), some (.int b), y3, y4] ∧ i + m = ms.length ∧ Same H H2 ∧ up n b (ms.drop i), ⟨ms.length, -1, _, _, rfl, by omega, s1, hup⟩, fun i m σ H2 hW => ?_⟩
    obtain ⟨b, y3, y4, rfl, em, s2, hu⟩ := hW
    have hA := SqT.same hS s2
    by_cases hi : i < ms.length
    · have g1 : (ms.map V.int)[i]? = some (.int ms[i]) := by
        rw [List.getElem?_map, List.getElem?_eq_getElem hi]; rfl
      obtain ⟨u1, u2, u3⟩ := up_drop hu (List.getElem?_eq_getElem hi)
      refine .inr ⟨⟨_, _, hA, g1⟩, fun σ' H' => ∃ b y3 y4, σ' = [some (.int n), some (.ref a), some (.int b), y3, y4] ∧ Same H H' ∧ up n b (ms.drop (i + 1)), fun σ' H' hN => ?_, fun x H' hy => ?_⟩
      · obtain ⟨b', z3, z4, e, sm, hu'⟩ := hN
        exact ⟨m - 1, by omega, b', z3, z4, e, by omega, sm, hu'⟩
      · obtain ⟨T1, x1, rfl, nT1, rfl, f1⟩ := hy
        have ex1 : x1 = .int ms[i] := Option.some.inj ((f1 _ hA).symm.trans g1)
        refine ⟨T1, [.int (i : Nat), x1], rfl, .inl (.inl upd_same), rfl, _, _, rfl, _, _, rfl, rfl, ?_⟩
        refine ⟨_, rfl, _, rfl, b, 1, rfl, rfl, _, rfl, n, 1, rfl, rfl, ms[i], b + 1, n - 1, (by rw [ex1]; rfl), _, rfl, ?_⟩
        refine iteN (by rw [decide_eq_true (by omega), decide_eq_true (by omega)]; rfl) ⟨_, rfl, ?_⟩
        rw [ex1]
        exact ⟨ms[i], _, _, rfl, s2.trans (same_upd nT1), u3⟩
    · refine .inl ⟨⟨_, hA, by rw [List.length_map]; omega⟩, q H2 s2⟩
end
end TF
/-! ## TfP5 -/
/-! Cell: __init__, properties, ==; is_cell -/
namespace TF
open PySem PySem.Spec PySem.W PyProof.Rows L2
def goodB (n : Int) (ms : List Int) : Bool := freeB n ms && coverB n ms (servK n (ms.getLastD 0) ms)
theorem up_all {n : Int} : ∀ {b : Int} {ms : List Int}, up n b ms → ∀ y ∈ ms, b < y ∧ y < n
  | b, x :: r, ⟨h1, h2, h3⟩, y, hy => by
    rcases List.mem_cons.mp hy with e | e
    · rw [e]; exact ⟨h1, h2⟩
    · obtain ⟨a, c⟩ := up_all h3 y e
      exact ⟨Int.lt_trans h1 a, c⟩
theorem last_mem : ∀ (ms : List Int), ms ≠ [] → ms.getLastD 0 ∈ ms
  | x :: r, _ => by
    rw [List.getLastD_eq_getLast?, List.getLast?_eq_some_getLast (by simp : x :: r ≠ [])]
    exact List.getLast_mem _
theorem up_last {n : Int} : ∀ {b : Int} {ms : List Int}, up n b ms → ∀ y ∈ ms, y ≤ ms.getLastD 0
  | b, [x], _, y, hy => by
    rw [List.mem_singleton.mp hy]; exact Int.le_refl _
  | b, x :: z :: r, ⟨h1, h2, h3⟩, y, hy => by
    have e : (x :: z :: r).getLastD 0 = (z :: r).getLastD 0 := by simp [List.getLastD_eq_getLast?, List.getLast?_cons_cons]
    rw [e]
    rcases List.mem_cons.mp hy with q | q
    · rw [q]
      exact Int.le_of_lt (Int.lt_of_lt_of_le h3.1 (up_last h3 z List.mem_cons_self))
    · exact up_last h3 y q
theorem up_top {n b mx : Int} {ms : List Int} (h : up n b ms) (h0 : 0 < ms.length) (h1 : mx ∈ ms) (h2 : ∀ y ∈ ms, y ≤ mx) : mx = ms.getLastD 0 :=
  Int.le_antisymm (up_last h mx h1) (h2 _ (last_mem ms (by intro z; rw [z] at h0; simp at h0)))
def cellF (td t kd : Addr) (n : Int) : List (Str × V) := [("table", .ref td), ("own_modulus", .int n), ("own_members", .ref t), ("known", .ref kd)]
/-- a cell of the text at p -/
def CellAt (K : PySem.W.Frag) (C : Addr) (H : Hp) (p : Addr) (n : Int) (ms : List Int) : Prop := ∃ dx td t kd, H p = some (.ins C dx (cellF td t kd n)) ∧ SqT K H t (ms.map V.int)
theorem CellAt.same {K : PySem.W.Frag} {C : Addr} {H H' : Hp} {p : Addr} {n : Int} {ms : List Int} (h : CellAt K C H p n ms) (s : Same H H') : CellAt K C H' p n ms := let ⟨dx, td, t, kd, e, q⟩ := h; ⟨dx, td, t, kd, s _ _ e, SqT.same q s⟩
section
variable {P : Program} {w : World} {K : PySem.W.Frag} {mg : Str → Option Value} {base : Heap}
def spInit (K : PySem.W.Frag) (C : Addr) : Sp := fun vs H Q _ => ∃ (x dx : Addr) (n : Int) (a : Addr) (ms : List Int), vs = [.ref x, .int n, .ref a] ∧ H x = some (.ins C dx []) ∧ 0 < n ∧ n ≤ 1000 ∧ SqT K H a (ms.map V.int) ∧ 0 < ms.length ∧ ms.length ≤ 30 ∧ up n (-1) ms ∧ goodB n ms = true ∧
  ∀ H' td kd, (∀ b o, b ≠ x → H b = some o → H' b = some o) → H' x = some (.ins C dx (cellF td a kd n)) → Q .non H'
theorem same_but {H H' : Hp} {x : Addr} {o o' : HO} (s : ∀ b o, b ≠ x → H b = some o → H' b = some o) : ∀ b u, b ≠ x → H b = some u → (upd H' x o') b = some u := fun b u hb e => by
  rw [upd_ne hb]; exact s b u hb e
theorem sqT_but {H H' : Hp} {x a : Addr} {C dx : Addr} {fs : List (Str × V)} {xs : List V} (e : H x = some (.ins C dx fs)) (s : ∀ b o, b ≠ x → H b = some o → H' b = some o) (h : SqT K H a xs) : SqT K H' a xs := by
  rcases h with (h | ⟨o, h⟩) | h
  · exact .inl (.inl (s _ _ (fun z => by rw [z, e] at h; cases h) h))
  · exact .inl (.inr ⟨o, s _ _ (fun z => by rw [z, e] at h; cases h) h⟩)
  · exact .inr h
structure TP (K : PySem.W.Frag) (mg : Str → Option Value) (fB fS fV fU fH : Addr) (dB dS dV dU dH : FuncData) : Prop where
  B : Fun K "is_between" "is_between" sBetween fB dB
  bB : Binds K dB ["value", "low", "high"] []
  gB : mg "is_between" = some (.ref fB)
  S : Fun K "spoiling_triple" "spoiling_triple" sSpoil fS dS
  bS : Binds K dS ["modulus", "members"] []
  gS : mg "spoiling_triple" = some (.ref fS)
  V : Fun K "serving_table" "serving_table" sServing fV dV
  bV : Binds K dV ["modulus", "members"] []
  gV : mg "serving_table" = some (.ref fV)
  U : Fun K "unserved_remainder" "unserved_remainder" sUnserved fU dU
  bU : Binds K dU ["modulus", "members", "table"] []
  gU : mg "unserved_remainder" = some (.ref fU)
  H : Fun K "check_shape" "check_shape" sShape fH dH
  bH : Binds K dH ["modulus", "members"] []
  gH : mg "check_shape" = some (.ref fH)
variable {fB fS fV fU fH C : Addr} {dB dS dV dU dH : FuncData}
theorem ok_init {f : Addr} {fd : FuncData} (F : Fun K "__init__" "Cell.__init__" sInit f fd) (B : Bi mg) (T : TC K mg C) (D : TP K mg fB fS fV fU fH dB dS dV dU dH) : FnOk P w K mg base CX0 3 f fd ["self", "modulus", "members"] (spInit K C) := by
  have GS : FnOk P w K mg base CX0 1 fS dS ["modulus", "members"] (spSpoil K) := ok_spoil D.S
  have GV : FnOk P w K mg base CX0 1 fV dV ["modulus", "members"] (spServing K) := ok_serving D.V B
  have GU : FnOk P w K mg base CX0 1 fU dU ["modulus", "members", "table"] (spUnserved K) := ok_unserved D.U B
  have GH : FnOk P w K mg base CX0 2 fH dH ["modulus", "members"] (spShape K) := ok_shape D.H B T D.B D.bB D.gB
  refine F.ok scInit (fun vs H Q E h => ?_) (fun cdv A outer s H vs Q E hr h => ?_)
  · obtain ⟨x, dx, n, a, ms, rfl, _⟩ := h
    rfl
  · obtain ⟨x, dx, n, a, ms, rfl, hx, hn, hn2, hS, hl0, hl, hup, hg, q⟩ := h
    have hr1 := hr.mono (j := 1) (by decide)
    refine ⟨_, pss_cons (ps_expr (pe_call GH hr (by rfl) D.gH D.H.kp D.bH .nil pass0 (pa_cons (pv 1) (pa_cons (pv 2) pa_nil))))
      (pss_cons (ps_set (i := 3) scInit.nd rfl (Or.inl rfl) (pe_call GS hr1 (by rfl) D.gS D.S.kp D.bS .nil pass0 (pa_cons (pv 1) (pa_cons (pv 2) pa_nil))))
      (pss_cons (ps_if (pt_cmp (pc_notN (pv 3))) (pss_one ps_never) pss_nil)
      (pss_cons (ps_fld (pv 0) (pe_call GV hr1 (by rfl) D.gV D.V.kp D.bV .nil pass0 (pa_cons (pv 1) (pa_cons (pv 2) pa_nil))) rfl)
      (pss_cons (ps_set (i := 4) scInit.nd rfl (Or.inl rfl) (pe_call GU hr1 (by rfl) D.gU D.U.kp D.bU .nil pass0 (pa_cons (pv 1) (pa_cons (pv 2) (pa_cons (pe_fld (pv 0) rfl) pa_nil)))))
      (pss_cons (ps_if (pt_cmp (pc_notN (pv 4))) (pss_one ps_never) pss_nil)
      (pss_cons (ps_fld (pv 0) (pv 1) rfl)
      (pss_cons (ps_fld (pv 0) (pe_callTy call_tuple_of (by rfl) B.tuple (by decide +kernel) (pa_cons (pv 2) pa_nil)) rfl)
      (pss_one (ps_fld (pv 0) (pe_dc (own := [("member", 5)]) (g := gName 5) (tt := tYes) rfl scInit.nd (pi_tup (pv 2)) (blkOk_by (own := [("member", 5)]) (N := ["self", "modulus", "members", "triple", "rest", "member"]) (sc := defScope sInit) (by decide +kernel))
        (fun _ _ _ _ _ => pg_name (i := 5) scInit.nd rfl (Or.inl rfl)) (fun _ _ _ _ _ => pts_nil) (fun _ _ _ _ _ => pv 5) (fun _ _ _ _ _ => pe_bl)) rfl))))))))), ?_⟩
    have gF : freeB n ms = true := by
      unfold goodB at hg
      rw [Bool.and_eq_true] at hg
      exact hg.1
    have gC : coverB n ms (servK n (ms.getLastD 0) ms) = true := by
      unfold goodB at hg
      rw [Bool.and_eq_true] at hg
      exact hg.2
    refine ⟨_, rfl, _, rfl, n, a, ms, rfl, hn, hn2, hS, hl0, by omega, hup, fun H1 s1 => ?_⟩
    refine ⟨_, rfl, _, rfl, n, a, ms, rfl, hn, SqT.same hS s1, by omega, fun H2 s2 _ => ?_, fun H2 p s2 e => by rw [gF] at e; cases e⟩
    refine ⟨_, rfl, _, rfl, iteF ?_⟩
    have s02 := s1.trans s2
    refine ⟨_, rfl, _, rfl, n, a, ms, rfl, hn, hn2, SqT.same hS s02, hl0, hl, fun H3 td mx s3 ntd hm1 hm2 tab => ?_⟩
    have emx := up_top hup hl0 hm1 hm2
    have s03 := s02.trans s3
    refine ⟨_, rfl, x, C, dx, [], rfl, s03 _ _ hx, T.cl, T.nTable, by decide, ?_⟩
    -- rest
    have b4 : ∀ b o, b ≠ x → H b = some o → (upd H3 x (.ins C dx (putF "table" (.ref td) []))) b = some o := same_but (H := H) (o := .ins C dx []) (fun b o _ e => s03 b o e)
    have ex4 : (upd H3 x (.ins C dx (putF "table" (.ref td) []))) x = some (.ins C dx [("table", .ref td)]) := upd_same
    have tdx : td ≠ x := fun z => by
      have e1 := s03 _ _ hx
      obtain ⟨kvs, e2, _⟩ := tab
      rw [← z, e2] at e1; cases e1
    have tab4 : KeysAt (upd H3 x (.ins C dx (putF "table" (.ref td) []))) td (servK n mx ms) 1000 := by
      obtain ⟨kvs, e2, r⟩ := tab.keys
      exact ⟨kvs, by rw [upd_ne tdx]; exact e2, r⟩
    refine ⟨_, rfl, _, rfl, _, rfl, x, C, dx, _, _, rfl, ex4, T.cl, T.nTable, rfl, n, a, td, ms, _, _, rfl, hn, hn2, sqT_but hx b4 hS, by omega, tab4, fun H5 s5 _ => ?_, fun H5 r s5 e => ?_⟩
    rotate_left
    · rw [emx, gC] at e; cases e
    refine ⟨_, rfl, _, rfl, iteF ?_⟩
    have b5 : ∀ b o, b ≠ x → H b = some o → H5 b = some o := fun b o hb e => s5 _ _ (b4 b o hb e)
    refine ⟨_, rfl, _, rfl, x, C, dx, _, rfl, s5 _ _ ex4, T.cl, T.nMod, by simp, ?_⟩
    generalize hH6 : upd H5 x (.ins C dx (putF "own_modulus" (.int n) [("table", .ref td)])) = H6
    have b6 : ∀ b o, b ≠ x → H b = some o → H6 b = some o := by rw [← hH6]; exact same_but (H := H) (o := .ins C dx []) b5
    have ex6 : H6 x = some (.ins C dx [("table", .ref td), ("own_modulus", .int n)]) := by rw [← hH6]; exact upd_same
    refine ⟨_, rfl, a, _, rfl, .inr ⟨sqT_but hx b6 hS, _, rfl, x, C, dx, _, rfl, ex6, T.cl, T.nMem, by simp, ?_⟩⟩
    generalize hH7 : upd H6 x (.ins C dx (putF "own_members" (.ref a) [("table", .ref td), ("own_modulus", .int n)])) = H7
    have b7 : ∀ b o, b ≠ x → H b = some o → H7 b = some o := by rw [← hH7]; exact same_but (H := H) (o := .ins C dx []) b6
    have ex7 : H7 x = some (.ins C dx [("table", .ref td), ("own_modulus", .int n), ("own_members", .ref a)]) := by rw [← hH7]; exact upd_same
    have hS7 := sqT_but (K := K) hx b7 hS
    refine ⟨_, rfl, a, rfl, ⟨_, hS7⟩, fun kd nkd => dc_known hS7 nkd (by omega) (fun x => ⟨rfl, rfl⟩) fun H8 s8 k8 => ?_⟩
    refine ⟨_, rfl, x, C, dx, _, rfl, s8 _ _ ex7, T.cl, T.nKnown, by simp, ?_⟩
    exact q _ td kd (same_but (H := H) (o := .ins C dx []) fun b o hb e => s8 _ _ (b7 b o hb e)) upd_same
/-! ### is_cell -/
def spIsCell (K : PySem.W.Frag) : Sp := fun vs H Q _ => ∃ (n : Int) (a : Addr) (ms : List Int), vs = [.int n, .ref a] ∧ 0 < n ∧ n ≤ 1000 ∧ SqT K H a (ms.map V.int) ∧ 0 < ms.length ∧ ms.length ≤ 30 ∧ up n (-1) ms ∧ ∀ H', Same H H' → Q (.bl (goodB n ms)) H'
theorem ok_isCell {f : Addr} {fd : FuncData} (F : Fun K "is_cell" "is_cell" sIsCell f fd) (B : Bi mg) (D : TP K mg fB fS fV fU fH dB dS dV dU dH) : FnOk P w K mg base CX0 2 f fd ["modulus", "members"] (spIsCell K) := by
  have GS : FnOk P w K mg base CX0 1 fS dS ["modulus", "members"] (spSpoil K) := ok_spoil D.S
  have GV : FnOk P w K mg base CX0 1 fV dV ["modulus", "members"] (spServing K) := ok_serving D.V B
  have GU : FnOk P w K mg base CX0 1 fU dU ["modulus", "members", "table"] (spUnserved K) := ok_unserved D.U B
  refine F.ok scIsCell (fun vs H Q E h => ?_) (fun cdv A outer s H vs Q E hr h => ?_)
  · obtain ⟨n, a, ms, rfl, _⟩ := h
    rfl
  · obtain ⟨n, a, ms, rfl, hn, hn2, hS, hl0, hl, hup, q⟩ := h
    refine ⟨_, pss_cons (ps_if (pt_cmp (pc_notN (pe_call GS hr (by rfl) D.gS D.S.kp D.bS .nil pass0 (pa_cons (pv 0) (pa_cons (pv 1) pa_nil))))) (pss_one (ps_ret pe_bl)) pss_nil)
      (pss_one (ps_ret (pe_cmp (pc_isN (pe_call GU hr (by rfl) D.gU D.U.kp D.bU .nil pass0 (pa_cons (pv 0) (pa_cons (pv 1) (pa_cons (pe_call GV hr (by rfl) D.gV D.V.kp D.bV .nil pass0 (pa_cons (pv 0) (pa_cons (pv 1) pa_nil))) pa_nil))))) rfl))), ?_⟩
    refine ⟨_, rfl, _, rfl, n, a, ms, rfl, hn, hS, by omega, fun H1 s1 e => ?_, fun H1 p s1 e => ?_⟩
    · refine ⟨_, rfl, iteF ?_⟩
      refine ⟨_, rfl, _, rfl, _, rfl, _, rfl, n, a, ms, rfl, hn, hn2, SqT.same hS s1, hl0, hl, fun H2 td mx s2 ntd hm1 hm2 tab => ?_⟩
      have emx := up_top hup hl0 hm1 hm2
      have s12 := s1.trans s2
      refine ⟨n, a, td, ms, _, _, rfl, hn, hn2, SqT.same hS s12, by omega, tab.keys, fun H3 s3 e3 => ?_, fun H3 r s3 e3 => ?_⟩
      · have g : goodB n ms = true := by
          unfold goodB
          rw [e, ← emx, e3]; rfl
        have := q H3 (s12.trans s3)
        rw [g] at this
        exact this
      · have g : goodB n ms = false := by
          unfold goodB
          rw [← emx, e3, Bool.and_false]
        have := q H3 (s12.trans s3)
        rw [g] at this
        exact this
    · refine ⟨_, rfl, iteT ?_⟩
      have g : goodB n ms = false := by
        unfold goodB
        rw [e, Bool.false_and]
      have := q H1 s1
      rw [g] at this
      exact this
/-! ### __eq__ -/
def insF (fs : List (Str × V)) (n : Int) (t : Addr) : Prop := fs.lookup (Str.ofString "own_modulus") = some (V.int n) ∧ fs.lookup (Str.ofString "own_members") = some (V.ref t)
def spCEq (K : PySem.W.Frag) (C : Addr) : Sp := fun vs H Q _ => ∃ (x y dx dy : Addr) (n m : Int) (t u : Addr) (ms ns : List Int) (fs gs : List (Str × V)), vs = [.ref x, .ref y] ∧ H x = some (.ins C dx fs) ∧ H y = some (.ins C dy gs) ∧ insF fs n t ∧ insF gs m u ∧
  SqT K H t (ms.map V.int) ∧ SqT K H u (ns.map V.int) ∧ Q (.bl (decide (n = m) && PyData.eqv (.tuple (ms.map .int)) (.tuple (ns.map .int)))) H
theorem dp_ints {H : Hp} : ∀ ms : List Int, DpAll K H (ms.map V.int) (ms.map .int)
  | [] => .nil
  | x :: r => .cons (.int x) (dp_ints r)
theorem lay_ints : ∀ r : List Int, PyData.canLayAll0 (r.map .int) = true
  | [] => by simp [PyData.canLayAll0]
  | x :: r => by
    rw [List.map_cons]
    unfold PyData.canLayAll0
    rw [lay_ints r]
    simp [PyData.canLay0]
theorem shaped_ints (ms : List Int) : SeqAt.shaped (.tuple (ms.map .int)) = true := by
  unfold SeqAt.shaped
  have h1 : PyData.canLay0 (.tuple (ms.map .int)) = true := by
    unfold PyData.canLay0
    exact lay_ints ms
  have h2 : PyData.depth (.tuple (ms.map .int)) ≤ 64 := by
    unfold PyData.depth
    rw [depth_ints]; decide
  rw [h1, decide_eq_true h2]; rfl
theorem shaped_lst (ms : List Int) : SeqAt.shaped (.list (ms.map .int)) = true := by
  unfold SeqAt.shaped
  have h1 : PyData.canLay0 (.list (ms.map .int)) = true := by
    unfold PyData.canLay0
    exact lay_ints ms
  have h2 : PyData.depth (.list (ms.map .int)) ≤ 64 := by
    unfold PyData.depth
    rw [depth_ints]; decide
  rw [h1, decide_eq_true h2]; rfl
def rowD (r : List Int) : PyData := .list (r.map .int)
theorem lay_rows : ∀ rs : List (List Int), PyData.canLayAll0 (rs.map rowD) = true
  | [] => by simp [PyData.canLayAll0]
  | x :: r => by
    rw [List.map_cons]
    unfold PyData.canLayAll0
    rw [lay_rows r]
    have := (Bool.and_eq_true_iff.mp (shaped_lst x)).1
    unfold rowD
    rw [this]; rfl
theorem depth_rows : ∀ rs : List (List Int), PyData.depthAll (rs.map rowD) ≤ 1
  | [] => by simp [PyData.depthAll]
  | x :: r => by
    rw [List.map_cons]
    unfold PyData.depthAll
    have h2 : PyData.depth (rowD x) = 1 := by
      unfold rowD PyData.depth
      rw [depth_ints]
    rw [h2]
    exact Nat.max_le.mpr ⟨Nat.le_refl _, depth_rows r⟩
theorem shaped_rows (rs : List (List Int)) : SeqAt.shaped (.list (rs.map rowD)) = true := by
  unfold SeqAt.shaped
  have h1 : PyData.canLay0 (.list (rs.map rowD)) = true := by
    unfold PyData.canLay0
    exact lay_rows rs
  have h2 : PyData.depth (.list (rs.map rowD)) ≤ 64 := by
    unfold PyData.depth
    have := depth_rows rs
    omega
  rw [h1, decide_eq_true h2]; rfl
theorem eqv_shaped {d : PyData} (h : SeqAt.shaped d = true) : PyData.eqv d d = true := SeqAt.eqv_refl d (Bool.and_eq_true_iff.mp h).1
theorem ok_ceq {f : Addr} {fd : FuncData} {k : Nat} (F : Fun K "__eq__" "Cell.__eq__" sEq f fd) (B : Bi mg) (T : TC K mg C) : FnOk P w K mg base CX0 (k + 1) f fd ["self", "other"] (spCEq K C) := by
  refine F.ok scEq (fun vs H Q E h => ?_) (fun cdv A outer s H vs Q E hr h => ?_)
  · obtain ⟨x, y, dx, dy, n, m, t, u, ms, ns, fs, gs, rfl, _⟩ := h
    rfl
  · obtain ⟨x, y, dx, dy, n, m, t, u, ms, ns, fs, gs, rfl, hx, hy, ⟨f1, f2⟩, ⟨g1, g2⟩, h1, h2, q⟩ := h
    refine ⟨_, pss_cons (ps_if (pt_not (pt_val (pe_callB call_isi (by rfl) B.isinstance (by decide +kernel) (pa_cons (pv 1) (pa_cons (pe_glob (v := .ref C) (by rfl) T.mgC rfl) pa_nil))))) (pss_one (ps_ret pe_bl)) pss_nil)
      (pss_one (ps_ret (pe_and (pe_cmpR op_eq (pe_fld (pv 0) rfl) (pe_fld (pv 1) rfl) (nomark _)) (pe_one (pe_cmpR (op_eqD hr.units) (pe_fld (pv 0) rfl) (pe_fld (pv 1) rfl) (nomark _)))))), ?_⟩
    refine ⟨_, rfl, .ref y, .ref C, .ref C, .ref C, true, rfl, .own C, .base (.ins hy T.cl T.ha T.hn T.htk T.hm), T.isC, true, rfl, iteN rfl ?_⟩
    refine ⟨_, rfl, x, C, dx, fs, _, rfl, hx, T.cl, T.nMod, f1, _, rfl, y, C, dy, gs, _, rfl, hy, T.cl, T.nMod, g1, rfl, _, rfl, ?_⟩
    by_cases e : n = m
    · refine iteP (decide_eq_true (by rw [e])) ?_
      refine ⟨_, rfl, x, C, dx, fs, _, rfl, hx, T.cl, T.nMem, f2, _, rfl, y, C, dy, gs, _, rfl, hy, T.cl, T.nMem, g2, _, _, .tup h1 (dp_ints ms), .tup h2 (dp_ints ns), shaped_ints ms, shaped_ints ns, ?_⟩
      rw [decide_eq_true e, Bool.true_and] at q
      exact q
    · refine iteQ (decide_eq_false fun z => e (V.int.inj z)) ?_
      rw [decide_eq_false e, Bool.false_and] at q
      exact q
theorem ok_modulus {f : Addr} {fd : FuncData} {k : Nat} (F : Fun K "modulus" "Cell.modulus" sModulus f fd) (T : TC K mg C) : FnOk P w K mg base CX0 (k + 1) f fd ["self"] (getSp C "own_modulus") := by
  refine F.ok scModulus (fun vs H Q E h => ?_) (fun cdv A outer s H vs Q E hr h => ?_)
  · obtain ⟨a, dx, fs, v, rfl, _⟩ := h
    rfl
  · obtain ⟨a, dx, fs, v, rfl, ea, l, q⟩ := h
    refine ⟨_, pss_one (ps_ret (pe_fld (pv 0) rfl)), ?_⟩
    exact ⟨_, rfl, a, C, dx, fs, v, rfl, ea, T.cl, T.nMod, l, q⟩
theorem ok_members {f : Addr} {fd : FuncData} {k : Nat} (F : Fun K "members" "Cell.members" sMembers f fd) (T : TC K mg C) : FnOk P w K mg base CX0 (k + 1) f fd ["self"] (getSp C "own_members") := by
  refine F.ok scMembers (fun vs H Q E h => ?_) (fun cdv A outer s H vs Q E hr h => ?_)
  · obtain ⟨a, dx, fs, v, rfl, _⟩ := h
    rfl
  · obtain ⟨a, dx, fs, v, rfl, ea, l, q⟩ := h
    refine ⟨_, pss_one (ps_ret (pe_fld (pv 0) rfl)), ?_⟩
    exact ⟨_, rfl, a, C, dx, fs, v, rfl, ea, T.cl, T.nMem, l, q⟩
end
end TF
/-! ## TfP6 -/
/-! grown -/
namespace TF
open PySem PySem.Spec PySem.W PyProof.Rows L2
def firstOf (ms : List Int) : Int := if ms = [] then 0 else ms.getLastD 0 + 1
def ownB (n : Int) (ms : List Int) : Bool := !ms.isEmpty && goodB n ms
def own1 (n : Int) (ms : List Int) : List (List Int) := if ownB n ms = true then [ms] else []
def walk (n : Int) : Nat → List Int → List (List Int)
  | 0, ms => own1 n ms
  | d + 1, ms => own1 n ms ++ (List.range (n - firstOf ms).toNat).flatMap fun (i : Nat) => if freeB n (ms ++ [firstOf ms + (i : Int)]) = true then walk n d (ms ++ [firstOf ms + (i : Int)]) else []
def itm (K : PySem.W.Frag) (C : Addr) (n : Int) (r : List Int) : YP := fun x H => ∃ p, x = .ref p ∧ CellAt K C H p n r
def spGrown (K : PySem.W.Frag) (C : Addr) (d : Nat) : SpY := fun vs H items => ∃ (n : Int) (a : Addr) (ms : List Int), vs = [.int n, .ref a] ∧ 0 < n ∧ n ≤ 12 ∧ H a = some (.tup (ms.map V.int)) ∧ up n (-1) ms ∧ (n - firstOf ms).toNat ≤ d ∧ items = (walk n d ms).map (itm K C n)
theorem up_len {n : Int} : ∀ {b : Int} {ms : List Int}, up n b ms → b < n → (ms.length : Int) ≤ n - 1 - b
  | b, [], _, h => by simp; omega
  | b, x :: r, ⟨h1, h2, h3⟩, _ => by
    have := up_len h3 h2
    rw [List.length_cons]
    omega
theorem up_snoc {n : Int} : ∀ {b x : Int} {ms : List Int}, up n b ms → (ms = [] → b < x) → (ms ≠ [] → ms.getLastD 0 < x) → x < n → up n b (ms ++ [x])
  | b, x, [], _, h1, _, h3 => ⟨h1 rfl, h3, trivial⟩
  | b, x, [y], ⟨a1, a2, _⟩, _, h2, h3 => ⟨a1, a2, h2 (by simp), h3, trivial⟩
  | b, x, y :: z :: r, ⟨a1, a2, a3⟩, _, h2, h3 => by
    refine ⟨a1, a2, up_snoc (ms := z :: r) a3 (fun e => by cases e) (fun _ => ?_) h3⟩
    have := h2 (by simp)
    simpa [List.getLastD_eq_getLast?, List.getLast?_cons_cons] using this
theorem first_snoc (ms : List Int) (x : Int) : firstOf (ms ++ [x]) = x + 1 := by
  unfold firstOf
  rw [if_neg (by simp)]
  simp [List.getLastD_eq_getLast?]
theorem up_first {n : Int} {ms : List Int} {i : Nat} (h : up n (-1) ms) (hi : i < (n - firstOf ms).toNat) : up n (-1) (ms ++ [firstOf ms + (i : Int)]) := by
  refine up_snoc h (fun e => ?_) (fun e => ?_) (by omega)
  · unfold firstOf; rw [if_pos e]; omega
  · unfold firstOf; rw [if_neg e]; omega
theorem cat_read {K : PySem.W.Frag} {H : Hp} {a b : Addr} {ms : List Int} {x : Int} {Q : VK} (ha : H a = some (.tup (ms.map V.int))) (hb : H b = some (.tup [.int x])) (hl : ms.length ≤ 30)
    (hQ : ∀ c H', Same H H' → H' c = some (.tup ((ms ++ [x]).map V.int)) → Q (.ref c) H') : rCatA K (.ref a) (.ref b) H Q := by
  refine ⟨a, b, _, _, rfl, rfl, .inl (.inl ha), .inl (.inl hb), ?_, fun e => ?_, (fun _ e => by cases e), fun _ _ p np => ?_⟩
  · rw [List.length_map]
    exact Nat.le_of_lt (small1000 (by simp; omega))
  · have e' : ms = [] := List.map_eq_nil_iff.mp e
    exact hQ b H (Same.refl _) (by rw [e']; exact hb)
  · exact hQ p _ (same_upd np) (by rw [upd_same, List.map_append]; rfl)
theorem eqv_nil (ms : List Int) : PyData.eqv (.tuple (ms.map .int)) (.tuple []) = ms.isEmpty := by
  cases ms with
  | nil => exact eqv_shaped (shaped_ints [])
  | cons x r => simp [PyData.eqv, PyData.eqvAll]
section
variable {P : Program} {w : World} {K : PySem.W.Frag} {mg : Str → Option Value} {base : Heap}
structure TQ (K : PySem.W.Frag) (mg : Str → Option Value) (C fIC fI fG : Addr) (dIC dI dG : FuncData) : Prop where
  IC : Fun K "is_cell" "is_cell" sIsCell fIC dIC
  bIC : Binds K dIC ["modulus", "members"] []
  gIC : mg "is_cell" = some (.ref fIC)
  I : Fun K "__init__" "Cell.__init__" sInit fI dI
  M : Mk K C fI
  bI : Binds K dI ["self", "modulus", "members"] []
  G : Fun K "grown" "grown" sGrown fG dG
  bG : Binds K dG ["modulus", "members"] []
  gG : mg "grown" = some (.ref fG)
variable {fB fS fV fU fH fIC fI fG C : Addr} {dB dS dV dU dH dIC dI dG : FuncData}
theorem neNil_read {σ : L2.St} {H : Hp} {a : Addr} {ms : List Int} {Q : VK} (ha : H a = some (.tup (ms.map V.int))) (hv : σ[1]? = some (some (.ref a))) (hQ : ∀ H', Same H H' → Q (.bl (!ms.isEmpty)) H') : tOp (rNeD K) (tVar 1) (tTup tNil) σ H Q := by
  refine ⟨_, hv, Nat.zero_le _, fun p np => ?_⟩
  have e1 : (upd H p (.tup [])) a = some (.tup (ms.map V.int)) := same_upd np _ _ ha
  refine ⟨_, _, .tup (.inl (.inl e1)) (dp_ints ms), .tup (.inl (.inl upd_same)) .nil, shaped_ints ms, shaped_ints [], ?_⟩
  rw [eqv_nil]
  exact hQ _ (same_upd np)
/-- what the loop hands out from the i-th turn on -/
def walkFrom (n : Int) (d : Nat) (ms : List Int) (i : Nat) : List (List Int) := ((List.range (n - firstOf ms).toNat).drop i).flatMap fun (i : Nat) => if freeB n (ms ++ [firstOf ms + (i : Int)]) = true then walk n d (ms ++ [firstOf ms + (i : Int)]) else []
theorem walkFrom_step {n : Int} {d : Nat} {ms : List Int} {i : Nat} (hi : i < (n - firstOf ms).toNat) : walkFrom n d ms i = (if freeB n (ms ++ [firstOf ms + (i : Int)]) = true then walk n d (ms ++ [firstOf ms + (i : Int)]) else []) ++ walkFrom n d ms (i + 1) := by
  unfold walkFrom
  rw [List.drop_eq_getElem_cons (by simpa using hi), List.flatMap_cons, List.getElem_range]
theorem walkFrom_end {n : Int} {d : Nat} {ms : List Int} {i : Nat} (hi : (n - firstOf ms).toNat ≤ i) : walkFrom n d ms i = [] := by
  unfold walkFrom
  rw [List.drop_eq_nil_of_le (by simpa using hi)]
  rfl
theorem grown_for {A : Around} {outer : List Env} {L a0 : Addr} {g : Nat} {cdv : Value} {d lv : Nat} (B : Bi mg) (D : TP K mg fB fS fV fU fH dB dS dV dU dH) (T : TQ K mg C fIC fI fG dIC dI dG) (hr : Room (lv + 2) (A.deeper (envOfC "grown" (defScope sGrown) L fG cdv)))
    (F : GFix ⟨P, w, K, mg, base, A, outer, L, a0, g⟩ ["modulus", "members", "first", "member"] (envOfC "grown" (defScope sGrown) L fG cdv)) {sp' : SpY} (FG : FnG P w K mg base lv fG dG ["modulus", "members"] sp') (hsp : 0 < d → ∀ vs H items, spGrown K C (d - 1) vs H items → sp' vs H items) :
    ∃ t, YSs ⟨P, w, K, mg, base, A, outer, L, a0, g⟩ ["modulus", "members", "first", "member"] (envOfC "grown" (defScope sGrown) L fG cdv) ((defBody sGrown).drop 2) t ∧
      ∀ (n : Int) (a : Addr) (ms : List Int) (y3 : Option V) (rest : List YP) (Hw H : Hp), 0 < n → n ≤ 12 → H a = some (.tup (ms.map V.int)) → up n (-1) ms → (n - firstOf ms).toNat ≤ d → Same Hw H → rest = (walkFrom n (d - 1) ms 0).map (itm K C n) →
        t endGE rest Hw [some (.int n), some (.ref a), some (.int (firstOf ms)), y3] H := by
  have hr1 : Room 1 (A.deeper (envOfC "grown" (defScope sGrown) L fG cdv)) := hr.mono (by omega)
  have hr0 := hr.mono (j := lv) (by omega)
  have GS : FnOk P w K mg base CX0 1 fS dS ["modulus", "members"] (spSpoil K) := ok_spoil D.S
  have nd : (["modulus", "members", "first", "member"] : List Str).Nodup := scGrown.nd
  refine ⟨_, yss_one (ys_for F (fun W => pi_range2 (by rfl) B.range (pa_cons (pv 2) (pa_cons (pv 0) pa_nil))) (fun W => pg_name (i := 3) nd rfl (Or.inl rfl))
      (yss_one (ys_if (fun W => pt_cmp (pc_isN (pe_call GS hr1 (by rfl) D.gS D.S.kp D.bS .nil pass0 (pa_cons (pv 0) (pa_cons (pe_op (r := rCatA K) op_catA (pv 1) (pe_tup (pa_cons (pv 3) pa_nil))) pa_nil)))))
        (yss_one (ys_yieldFrom F hr fun W => pgl_call (gX_calm _ _ _ W) FG hr0 (by rfl) T.gG T.G.kp T.bG (pa_cons (pv 0) (pa_cons (pe_op (r := rCatA K) op_catA (pv 1) (pe_tup (pa_cons (pv 3) pa_nil))) pa_nil))))
        yss_nil))), ?_⟩
  intro n a ms y3 rest Hw H hn hn2 ha hup hd sm hrest
  have hlen : ms.length ≤ 12 := by
    have := up_len hup (by omega)
    omega
  have hf1 : -1 ≤ firstOf ms ∧ firstOf ms ≤ 12 := by
    unfold firstOf
    split
    · omega
    · rename_i e
      have := up_all hup _ (last_mem ms e)
      omega
  refine ⟨_, rfl, _, rfl, firstOf ms, n, rfl, ⟨by omega, by omega, by omega, by omega⟩, ?_⟩
  refine ⟨fun i m rest Hw σ H => ∃ y3, σ = [some (.int n), some (.ref a), some (.int (firstOf ms)), y3] ∧ i + m = (n - firstOf ms).toNat ∧ Same Hw H ∧ H a = some (.tup (ms.map V.int)) ∧ rest = (walkFrom n (d - 1) ms i).map (itm K C n),
    ⟨_, y3, rfl, Nat.zero_add _, sm, ha, hrest⟩, fun i m rest Hw σ H hW => ?_⟩
  obtain ⟨y3, rfl, em, sm, ha, hrest⟩ := hW
  by_cases hi : i < (n - firstOf ms).toNat
  · refine .inr ⟨hi, fun rest Hw σ H => ∃ y3, σ = [some (.int n), some (.ref a), some (.int (firstOf ms)), y3] ∧ Same Hw H ∧ H a = some (.tup (ms.map V.int)) ∧ rest = (walkFrom n (d - 1) ms (i + 1)).map (itm K C n), fun rest' Hw' σ' H' hN => ?_, fun x H' hy => ?_⟩
    · obtain ⟨z3, e, s', a', r'⟩ := hN
      exact ⟨m - 1, by omega, z3, e, by omega, s', a', r'⟩
    · obtain ⟨rfl, rfl⟩ := hy
      rw [walkFrom_step hi, List.map_append] at hrest
      have hup2 := up_first hup hi
      refine ⟨_, rfl, _, rfl, _, rfl, by show 1 ≤ sizeLine; decide, fun p np => cat_read (ms := ms) (same_upd np _ _ ha) upd_same (by omega) fun c H2 s2 hc => ?_⟩
      have s02 : Same H' H2 := (same_upd np).trans s2
      refine ⟨n, c, ms ++ [firstOf ms + (i : Int)], rfl, hn, .inl (.inl hc), by simp; omega, fun H3 s3 e => ?_, fun H3 p3 s3 e => ?_⟩
      · -- it is free
        refine ⟨_, rfl, iteT ?_⟩
        rw [if_pos e] at hrest
        have s03 := s02.trans s3
        refine ⟨_, rfl, _, rfl, _, rfl, by show 1 ≤ sizeLine; decide, fun p4 np4 => cat_read (ms := ms) (same_upd np4 _ _ (s03 _ _ ha)) upd_same (by omega) fun c5 H5 s5 hc5 => ?_⟩
        have s35 : Same H3 H5 := (same_upd np4).trans s5
        refine ⟨_, hsp (by omega) _ _ _ ⟨n, c5, _, rfl, hn, hn2, hc5, hup2, ?_, rfl⟩, _, hrest, (sm.trans s03).trans s35, fun Hw' H6 s6 t6 => ⟨_, rfl, s6, t6 _ _ ((s03.trans s35) _ _ ha), rfl⟩⟩
        rw [first_snoc]; omega
      · refine ⟨_, rfl, iteF ?_⟩
        have e' : ¬ freeB n (ms ++ [firstOf ms + (i : Int)]) = true := by rw [e]; simp
        rw [if_neg e', List.map_nil, List.nil_append] at hrest
        exact ⟨_, rfl, sm.trans (s02.trans s3), (s02.trans s3) _ _ ha, hrest⟩
  · refine .inl ⟨?_, ?_, sm⟩
    · show (n - firstOf ms).toNat ≤ i
      omega
    · rw [hrest, walkFrom_end (by omega)]; rfl
theorem grown_tail {A : Around} {outer : List Env} {L a0 : Addr} {g : Nat} {cdv : Value} {d lv : Nat} (B : Bi mg) (D : TP K mg fB fS fV fU fH dB dS dV dU dH) (T : TQ K mg C fIC fI fG dIC dI dG) (hr : Room (lv + 2) (A.deeper (envOfC "grown" (defScope sGrown) L fG cdv)))
    (F : GFix ⟨P, w, K, mg, base, A, outer, L, a0, g⟩ ["modulus", "members", "first", "member"] (envOfC "grown" (defScope sGrown) L fG cdv)) {sp' : SpY} (FG : FnG P w K mg base lv fG dG ["modulus", "members"] sp') (hsp : 0 < d → ∀ vs H items, spGrown K C (d - 1) vs H items → sp' vs H items) :
    ∃ t, YSs ⟨P, w, K, mg, base, A, outer, L, a0, g⟩ ["modulus", "members", "first", "member"] (envOfC "grown" (defScope sGrown) L fG cdv) ((defBody sGrown).drop 1) t ∧
      ∀ (n : Int) (a : Addr) (ms : List Int) (y2 y3 : Option V) (rest : List YP) (Hw H : Hp), 0 < n → n ≤ 12 → H a = some (.tup (ms.map V.int)) → up n (-1) ms → (n - firstOf ms).toNat ≤ d → Same Hw H → rest = (walkFrom n (d - 1) ms 0).map (itm K C n) →
        t endGE rest Hw [some (.int n), some (.ref a), y2, y3] H := by
  have hr1 : Room 1 (A.deeper (envOfC "grown" (defScope sGrown) L fG cdv)) := hr.mono (by omega)
  have nd : (["modulus", "members", "first", "member"] : List Str).Nodup := scGrown.nd
  obtain ⟨t, ht, q⟩ := grown_for (w := w) (P := P) (base := base) (d := d) B D T hr F FG hsp
  refine ⟨_, yss_cons (ys_plain fun W => ps_set (i := 2) nd rfl (Or.inl rfl) (pe_ifExp (pt_cmpR (r := rNeD K) (op_neD hr1.units) (pv 1) (pe_tup pa_nil) (nomark _)) (pe_op op_add (pe_ix (r := rIxT K) ix_tup (pv 1) (pe_un un_neg pe_int) (fun _ _ => rfl)) pe_int) pe_int)) ht, ?_⟩
  intro n a ms y2 y3 rest Hw H hn hn2 ha hup hd sm hrest
  refine neNil_read ha rfl fun H1 s1 => ⟨_, rfl, ?_⟩
  have s01 := sm.trans s1
  have ha1 := s1 _ _ ha
  by_cases hms : ms = []
  · refine iteQ (by rw [hms]; rfl) ?_
    have := q n a ms y3 rest Hw H1 hn hn2 ha1 hup hd s01 hrest
    have e : firstOf ms = 0 := by unfold firstOf; rw [if_pos hms]
    rw [e] at this
    exact this
  · refine iteP (by cases ms with | nil => exact absurd rfl hms | cons x r => rfl) ?_
    have hat : atI (ms.map V.int) (-1) = some (.int (ms.getLastD 0)) := by
      have e : ms.map V.int = ms.dropLast.map V.int ++ [V.int (ms.getLastD 0)] := by
        have h1 : ms.getLastD 0 = ms.getLast hms := by simp [List.getLastD_eq_getLast?, List.getLast?_eq_some_getLast hms]
        rw [h1]
        have h2 := congrArg (List.map V.int) (List.dropLast_concat_getLast hms)
        rw [List.map_append] at h2
        exact h2.symm
      rw [e]
      exact atI_last _ _
    refine ⟨_, rfl, 1, rfl, a, _, -1, _, rfl, rfl, .inl (.inl ha1), hat, _, _, rfl, rfl, ?_⟩
    have := q n a ms y3 rest Hw H1 hn hn2 ha1 hup hd s01 hrest
    have e : firstOf ms = ms.getLastD 0 + 1 := by unfold firstOf; rw [if_neg hms]
    rw [e] at this
    exact this
end
end TF
/-! ## TfP7 -/
/-! grown, cells_of -/
namespace TF
open PySem PySem.Spec PySem.W PyProof.Rows L2
theorem walk_eq {n : Int} {d : Nat} {ms : List Int} (h : (n - firstOf ms).toNat ≤ d) : walk n d ms = own1 n ms ++ walkFrom n (d - 1) ms 0 := by
  cases d with
  | zero =>
    rw [walkFrom_end (by omega), List.append_nil]
    rfl
  | succ d =>
    unfold walkFrom
    rw [List.drop_zero]
    rfl
section
variable {P : Program} {w : World} {K : PySem.W.Frag} {mg : Str → Option Value} {base : Heap}
variable {fB fS fV fU fH fIC fI fG C : Addr} {dB dS dV dU dH dIC dI dG : FuncData}
theorem grown_body {A : Around} {outer : List Env} {L a0 : Addr} {g : Nat} {cdv : Value} {d lv : Nat} (B : Bi mg) (TC' : TC K mg C) (D : TP K mg fB fS fV fU fH dB dS dV dU dH) (T : TQ K mg C fIC fI fG dIC dI dG) (hr : Room (lv + 2) (A.deeper (envOfC "grown" (defScope sGrown) L fG cdv))) (hlv : 4 ≤ lv)
    (F : GFix ⟨P, w, K, mg, base, A, outer, L, a0, g⟩ ["modulus", "members", "first", "member"] (envOfC "grown" (defScope sGrown) L fG cdv)) {sp' : SpY} (FG : FnG P w K mg base lv fG dG ["modulus", "members"] sp') (hsp : 0 < d → ∀ vs H items, spGrown K C (d - 1) vs H items → sp' vs H items) :
    ∃ t, YSs ⟨P, w, K, mg, base, A, outer, L, a0, g⟩ ["modulus", "members", "first", "member"] (envOfC "grown" (defScope sGrown) L fG cdv) (defBody sGrown) t ∧
      ∀ (vs : List V) (H : Hp) (items : List YP), spGrown K C d vs H items → ∀ Hw, TupKeep H Hw → t endGE items Hw (start ["modulus", "members", "first", "member"] vs) Hw := by
  have hr2 : Room 2 (A.deeper (envOfC "grown" (defScope sGrown) L fG cdv)) := hr.mono (by omega)
  have hr4 : Room 4 (A.deeper (envOfC "grown" (defScope sGrown) L fG cdv)) := hr.mono (by omega)
  have GIC : FnOk P w K mg base CX0 2 fIC dIC ["modulus", "members"] (spIsCell K) := ok_isCell T.IC B D
  have GI : FnOk P w K mg base CX0 3 fI dI ["self", "modulus", "members"] (spInit K C) := ok_init T.I B TC' D
  obtain ⟨t, ht, q⟩ := grown_tail (w := w) (P := P) (base := base) (d := d) B D T hr F FG hsp
  refine ⟨_, yss_cons (ys_if (fun W => PW.pt (pw_and (pt_cmpR (r := rNeD K) (op_neD hr2.units) (pv 1) (pe_tup pa_nil) (nomark _)) (pw_and1 (pt_val (pe_call GIC hr2 (by rfl) T.gIC T.IC.kp T.bIC .nil pass0 (pa_cons (pv 0) (pa_cons (pv 1) pa_nil)))))))
    (yss_one (ys_yield F (fun W => pe_make T.M GI hr4 (by rfl) TC'.mgC T.bI .nil pass0 (pa_cons (pv 0) (pa_cons (pv 1) pa_nil))))) yss_nil) ht, ?_⟩
  rintro vs H items ⟨n, a, ms, rfl, hn, hn2, ha0, hup, hd, rfl⟩ Hw tk
  have ha := tk _ _ ha0
  have hlen : ms.length ≤ 12 := by
    have := up_len hup (by omega)
    omega
  rw [walk_eq hd, List.map_append]
  refine neNil_read ha rfl fun H1 s1 => ⟨_, rfl, ?_⟩
  have ha1 := s1 _ _ ha
  by_cases hms : ms = []
  · refine iteQ (by rw [hms]; rfl) (iteF ?_)
    have e : own1 n ms = [] := by rw [hms]; rfl
    rw [e, List.map_nil, List.nil_append]
    exact q n a ms none none _ Hw H1 hn hn2 ha1 hup hd s1 rfl
  · have hpos : 0 < ms.length := List.length_pos_iff.mpr hms
    have hne : (!ms.isEmpty) = true := by cases ms with | nil => exact absurd rfl hms | cons x r => rfl
    refine iteP hne ?_
    refine ⟨_, rfl, _, rfl, n, a, ms, rfl, hn, by omega, .inl (.inl ha1), hpos, by omega, hup, fun H2 s2 => ⟨_, rfl, ?_⟩⟩
    have s02 := s1.trans s2
    have ha2 := s02 _ _ ha
    cases hg : goodB n ms with
    | true =>
      have e : own1 n ms = [ms] := by
        unfold own1 ownB
        rw [hne, hg]; rfl
      rw [e]
      refine iteT ⟨itm K C n ms, (walkFrom n (d - 1) ms 0).map (itm K C n), rfl, ?_⟩
      refine ⟨_, rfl, _, rfl, fun x dx nx ndx ne => ⟨x, dx, n, a, ms, rfl, upd_same, hn, by omega, ?_, hpos, by omega, hup, hg, fun H3 td kd sb ex => ⟨rfl, ?_⟩⟩⟩
      · have s3 : Same H2 (upd (upd H2 dx (.own x)) x (.ins C dx [])) := fun b o e => by
          rw [upd_ne (ne_of_none e nx), upd_ne (ne_of_none e ndx)]
          exact e
        exact .inl (.inl (s3 _ _ ha2))
      · have s3 : Same H2 H3 := fun b o e => by
          have hb : b ≠ x := ne_of_none e nx
          refine sb b o hb ?_
          rw [upd_ne hb, upd_ne (ne_of_none e ndx)]
          exact e
        have ha3 := s3 _ _ ha2
        exact ⟨s02.trans s3, ⟨x, rfl, dx, td, a, kd, ex, .inl (.inl ha3)⟩, fun H4 t4 => q n a ms none none _ H4 H4 hn hn2 (t4 _ _ ha3) hup hd (Same.refl _) rfl⟩
    | false =>
      have e : own1 n ms = [] := by
        unfold own1 ownB
        rw [hg, Bool.and_false]; rfl
      rw [e, List.map_nil, List.nil_append]
      refine iteF ?_
      exact q n a ms none none _ Hw H2 hn hn2 ha2 hup hd s02 rfl
theorem fnG_none {k : Nat} {f : Addr} {fd : FuncData} {ps : List Str} : FnG P w K mg base k f fd ps (fun _ _ _ => False) := ⟨fun _ _ _ h => h.elim, fun _ _ _ _ _ _ _ _ _ _ _ _ h => h.elim⟩
theorem fnG_grown (B : Bi mg) (TC' : TC K mg C) (D : TP K mg fB fS fV fU fH dB dS dV dU dH) (T : TQ K mg C fIC fI fG dIC dI dG) : ∀ d : Nat, FnG P w K mg base (3 * d + 7) fG dG ["modulus", "members"] (spGrown K C d) := by
  obtain ⟨oc, od, kV, doc, pm, an, cdv, ct, osl, e, lk, hcd⟩ := T.G.ex
  intro d
  induction d with
  | zero =>
    have FG : FnG P w K mg base 4 fG dG ["modulus", "members"] (fun _ _ _ => False) := fnG_none
    subst e
    refine fnG_of (k := 6) lk hcd scGrown (by decide +kernel) (fun vs H items h => ?_) fun A outer L a g H vs items hr hh F hsp => ?_
    · obtain ⟨n, a, ms, rfl, _⟩ := h
      rfl
    · obtain ⟨t, ht, q⟩ := grown_body (lv := 4) (d := 0) B TC' D T hr (by omega) F FG (fun z => absurd z (by omega))
      exact ⟨t, ht, q vs H items hsp⟩
  | succ d ih =>
    subst e
    refine (show 3 * (d + 1) + 7 = (3 * d + 7 + 2) + 1 by omega) ▸ fnG_of (k := 3 * d + 7 + 2) lk hcd scGrown (by decide +kernel) (fun vs H items h => ?_) fun A outer L a g H vs items hr hh F hsp => ?_
    · obtain ⟨n, a, ms, rfl, _⟩ := h
      rfl
    · obtain ⟨t, ht, q⟩ := grown_body (lv := 3 * d + 7) (d := d + 1) B TC' D T hr (by omega) F ih (fun _ vs H items h => h)
      exact ⟨t, ht, q vs H items hsp⟩
end
end TF
/-! ## TfP8 -/
/-! is_integer, cells_of -/
namespace TF
open PySem PySem.Spec PySem.W PyProof.Rows L2
theorem scIsInt : FnScope ["value", "low", "high"] ["value", "low", "high"] (defScope sIsInt) := ⟨rfl, rfl, rfl, by decide +kernel, rfl, by decide +kernel, by decide +kernel⟩
section
variable {P : Program} {w : World} {K : PySem.W.Frag} {mg : Str → Option Value} {base : Heap}
variable {fB fS fV fU fH fIC fI fG fN fO C : Addr} {dB dS dV dU dH dIC dI dG dN dO : FuncData}
def spIsInt : Sp := fun vs H Q _ => ∃ v lo hi : Int, vs = [.int v, .int lo, .int hi] ∧ lo ≤ v ∧ v ≤ hi ∧ Q (.bl true) H
theorem ok_isInt {f : Addr} {fd : FuncData} {k : Nat} (F : Fun K "is_integer" "is_integer" sIsInt f fd) (B : Bi mg) : FnOk P w K mg base CX0 (k + 1) f fd ["value", "low", "high"] spIsInt := by
  refine F.ok scIsInt (fun vs H Q E h => ?_) (fun cdv A outer s H vs Q E hr h => ?_)
  · obtain ⟨v, lo, hi, rfl, _⟩ := h
    rfl
  · obtain ⟨v, lo, hi, rfl, h1, h2, q⟩ := h
    refine ⟨_, pss_cons (ps_if (PW.pt (pw_or (pt_not (pt_val (pe_callB call_isi (by rfl) B.isinstance (by decide +kernel) (pa_cons (pv 0) (pa_cons (pe_bltn (v := .ty "int") (by rfl) B.int (by decide +kernel) rfl) pa_nil)))))
        (pw_or1 (pt_val (pe_callB call_isi (by rfl) B.isinstance (by decide +kernel) (pa_cons (pv 0) (pa_cons (pe_bltn (v := .ty "bool") (by rfl) B.bool (by decide +kernel) rfl) pa_nil))))))) (pss_one (ps_ret pe_bl)) pss_nil)
      (pss_one (ps_ret (pe_and (pe_or (pe_cmp (pc_isN (pv 1)) rfl) (pe_one (pe_cmpR op_le (pv 1) (pv 0) (nomark _)))) (pe_one (pe_or (pe_cmp (pc_isN (pv 2)) rfl) (pe_one (pe_cmpR op_le (pv 0) (pv 2) (nomark _)))))))), ?_⟩
    refine ⟨_, rfl, .int v, .ty "int", .type "int", .type "int", true, rfl, .ty _, .base (.int v), kit_ty (by decide +kernel), true, rfl, iteF ?_⟩
    refine ⟨_, rfl, .int v, .ty "bool", .type "int", .type "bool", false, rfl, .ty _, .base (.int v), kit_ty (by decide +kernel), false, rfl, iteF ?_⟩
    refine ⟨_, rfl, _, rfl, iteF ⟨_, rfl, _, rfl, _, _, rfl, rfl, _, rfl, iteP (decide_eq_true h1) ?_⟩⟩
    refine ⟨_, rfl, _, rfl, iteF ⟨_, rfl, _, rfl, _, _, rfl, rfl, ?_⟩⟩
    show Q (.bl (decide (v ≤ hi))) H
    rw [decide_eq_true h2]
    exact q
structure TO (K : PySem.W.Frag) (mg : Str → Option Value) (fN fO : Addr) (dN dO : FuncData) : Prop where
  N : Fun K "is_integer" "is_integer" sIsInt fN dN
  gN : mg "is_integer" = some (.ref fN)
  O : Fun K "cells_of" "cells_of" sCellsOf fO dO
  bO : Binds K dO ["modulus"] []
  gO : mg "cells_of" = some (.ref fO)
  most : ∃ t, mg "MOST_LISTED" = some (.int 12 t)
theorem kb_isInt {f : Addr} {fd : FuncData} (F : Fun K "is_integer" "is_integer" sIsInt f fd) : KBn K fd ["value", "low", "high"] 1 ["low", "high"] (fun us ws => us ++ ws) (fun vs zs => vs ++ zs) := by
  obtain ⟨oc, od, kV, doc, pm, an, cdv, ct, osl, rfl, lk, hcd⟩ := F.ex
  refine ⟨fun s us ws X l1 l2 => ?_, fun r1 r2 => r1.append r2⟩
  match us, ws, l1, l2 with
  | [u], [a, b], _, _ => exact .of_eq rfl
def spCellsOf (K : PySem.W.Frag) (C : Addr) : SpY := fun vs H items => ∃ n : Int, vs = [.int n] ∧ 0 < n ∧ n ≤ 12 ∧ items = (walk n 12 []).map (itm K C n)
theorem fnG_cellsOf (B : Bi mg) (TC' : TC K mg C) (D : TP K mg fB fS fV fU fH dB dS dV dU dH) (T : TQ K mg C fIC fI fG dIC dI dG) (O : TO K mg fN fO dN dO) : FnG P w K mg base 46 fO dO ["modulus"] (spCellsOf K C) := by
  have FG : FnG P w K mg base 43 fG dG ["modulus", "members"] (spGrown K C 12) := fnG_grown B TC' D T 12
  have GN : FnOk P w K mg base CX0 1 fN dN ["value", "low", "high"] spIsInt := ok_isInt O.N B
  obtain ⟨tk, hmost⟩ := O.most
  obtain ⟨oc, od, kV, doc, pm, an, cdv, ct, osl, e, lk, hcd⟩ := O.O.ex
  subst e
  refine fnG_of (k := 45) lk hcd scCellsOf (by decide +kernel) (fun vs H items h => ?_) fun A outer L a g H vs items hr hh F hsp => ?_
  · obtain ⟨n, rfl, _⟩ := h
    rfl
  · have hr1 := hr.mono (j := 1) (by decide)
    have hr0 := hr.mono (j := 43) (by decide)
    refine ⟨_, yss_cons (ys_plain fun W => ps_if (pt_not (pt_val (pe_callN GN hr1 (by rfl) O.gN O.N.kp (kb_isInt O.N) pass0 (pa_cons (pv 0) pa_nil) (pk_cons pe_int (pk_cons (pe_glob (v := .int 12) (by rfl) hmost ⟨_, rfl⟩) pk_nil))))) (pss_one ps_never) pss_nil)
      (yss_one (ys_yieldFrom F hr fun W => pgl_call (gX_calm _ _ _ W) FG hr0 (by rfl) T.gG T.G.kp T.bG (pa_cons (pv 0) (pa_cons (pe_tup pa_nil) pa_nil)))), fun Hw tk => ?_⟩
    obtain ⟨n, rfl, hn, hn2, rfl⟩ := hsp
    refine ⟨_, rfl, rfl, rfl, n, 1, 12, rfl, by omega, hn2, _, rfl, iteN rfl ?_⟩
    refine ⟨_, rfl, Nat.zero_le _, fun p np => ?_⟩
    refine ⟨_, ⟨n, p, [], rfl, hn, hn2, upd_same, trivial, ?_, rfl⟩, [], (List.append_nil _).symm, same_upd np, fun Hw' H2 s2 _ => ⟨rfl, s2⟩⟩
    unfold firstOf
    rw [if_pos rfl]; omega
end
end TF
/-! ## TfP9 -/
/-! _law_listed -/
namespace TF
open PySem PySem.Spec PySem.W PyProof.Rows L2
/-- a list of lists of numbers at p -/
def RowsAt (H : Hp) (p : Addr) (rows : List (List Int)) : Prop := ∃ qs : List (Addr × List Int), H p = some (.lst (qs.map fun q => V.ref q.1)) ∧ (∀ q ∈ qs, H q.1 = some (.lst (q.2.map V.int))) ∧ qs.map (·.2) = rows
theorem RowsAt.same {H H' : Hp} {p : Addr} {rows : List (List Int)} (h : RowsAt H p rows) (s : Same H H') : RowsAt H' p rows := let ⟨qs, a, b, c⟩ := h; ⟨qs, s _ _ a, fun q hq => s _ _ (b q hq), c⟩
theorem sum_pow (k : Nat) (f : Nat → Nat) (h : ∀ i, i < k → f i ≤ 2 ^ (k - 1 - i)) : 1 + ((List.range k).map f).sum ≤ 2 ^ k := by
  induction k generalizing f with
  | zero => simp
  | succ k ih =>
    rw [List.range_succ_eq_map, List.map_cons, List.map_map, List.sum_cons]
    have h0 := h 0 (by omega)
    have h1 := ih (f ∘ Nat.succ) fun i hi => by
      have := h (i + 1) (by omega)
      have e : k + 1 - 1 - (i + 1) = k - 1 - i := by omega
      rw [e] at this
      exact this
    have e : k + 1 - 1 - 0 = k := by omega
    rw [e] at h0
    rw [Nat.pow_succ]
    omega
theorem own1_len (n : Int) (ms : List Int) : (own1 n ms).length ≤ 1 := by
  unfold own1
  split <;> simp
theorem walk_len (n : Int) : ∀ (d : Nat) (ms : List Int), (walk n d ms).length ≤ 2 ^ (n - firstOf ms).toNat
  | 0, ms => by
    have := own1_len n ms
    have h2 : 1 ≤ 2 ^ (n - firstOf ms).toNat := Nat.one_le_two_pow
    exact Nat.le_trans this h2
  | d + 1, ms => by
    show (own1 n ms ++ _).length ≤ _
    rw [List.length_append, List.length_flatMap]
    refine Nat.le_trans (Nat.add_le_add_right (own1_len n ms) _) (sum_pow _ _ fun i hi => ?_)
    split
    · refine Nat.le_trans (walk_len n d _) ?_
      rw [first_snoc]
      refine Nat.pow_le_pow_right (by decide) ?_
      omega
    · simp
theorem walk_mem {n : Int} : ∀ (d : Nat) (ms r : List Int), up n (-1) ms → r ∈ walk n d ms → up n (-1) r ∧ r ≠ [] ∧ goodB n r = true := by
  have own : ∀ ms r : List Int, up n (-1) ms → r ∈ own1 n ms → up n (-1) r ∧ r ≠ [] ∧ goodB n r = true := fun ms r h hm => by
    unfold own1 at hm
    split at hm
    · rename_i hb
      rw [List.mem_singleton.mp hm]
      unfold ownB at hb
      rw [Bool.and_eq_true] at hb
      exact ⟨h, fun z => by rw [z] at hb; simp at hb, hb.2⟩
    · simp at hm
  intro d
  induction d with
  | zero => exact fun ms r h hm => own ms r h hm
  | succ d ih =>
    intro ms r h hm
    rcases List.mem_append.mp (show r ∈ own1 n ms ++ _ from hm) with z | z
    · exact own ms r h z
    · obtain ⟨i, hi, z⟩ := List.mem_flatMap.mp z
      split at z
      · exact ih _ r (up_first h (List.mem_range.mp hi)) z
      · simp at z
section
variable {P : Program} {w : World} {K : PySem.W.Frag} {mg : Str → Option Value} {base : Heap}
variable {fB fS fV fU fH fIC fI fG fN fO fE fM fR fT C pM pR : Addr} {dB dS dV dU dH dIC dI dG dN dO dE dM dR dT : FuncData}
structure TE' (K : PySem.W.Frag) (C fE fM fR pM pR : Addr) (dE dM dR : FuncData) : Prop where
  E : Fun K "__eq__" "Cell.__eq__" sEq fE dE
  bE : Binds K dE ["self", "other"] []
  eqAt : PySem.W.findIn K (.ref C) "__eq__" = some (some (.ref fE))
  eqFn : PySem.W.isFn K (.ref fE) = true
  neAt : PySem.W.findIn K (.ref C) "__ne__" = some (some (.builtin "object.__ne__"))
  M : Fun K "modulus" "Cell.modulus" sModulus fM dM
  bM : Binds K dM ["self"] []
  pM : PropOf K C "modulus" pM fM
  R : Fun K "members" "Cell.members" sMembers fR dR
  bR : Binds K dR ["self"] []
  pR : PropOf K C "members" pR fR
def spListed : SpL := fun vs H Q => ∃ n : Int, vs = [.int n] ∧ 0 < n ∧ n ≤ 12 ∧ ∀ H' p, Same H H' → RowsAt H' p (walk n 12 []) → Q (.ref p) H'
theorem fnL_listed {f : Addr} {fd : FuncData} (FL : Fun K "_law_listed" "_law_listed" sListed f fd) (B : Bi mg) (TC' : TC K mg C) (D : TP K mg fB fS fV fU fH dB dS dV dU dH) (T : TQ K mg C fIC fI fG dIC dI dG) (O : TO K mg fN fO dN dO) (Y : TE' K C fE fM fR pM pR dE dM dR) :
    FnL P w K mg base 48 f fd ["_law_n"] spListed := by
  have FO : FnG P w K mg base 46 fO dO ["modulus"] (spCellsOf K C) := fnG_cellsOf B TC' D T O
  have GI : FnOk P w K mg base CX0 3 fI dI ["self", "modulus", "members"] (spInit K C) := ok_init T.I B TC' D
  have GE : FnOk P w K mg base CX0 1 fE dE ["self", "other"] (spCEq K C) := ok_ceq Y.E B TC'
  have GM : FnOk P w K mg base CX0 1 fM dM ["self"] (getSp C "own_modulus") := ok_modulus Y.M TC'
  have GR : FnOk P w K mg base CX0 1 fR dR ["self"] (getSp C "own_members") := ok_members Y.R TC'
  obtain ⟨oc, od, kV, doc, pm, an, cdv, ct, osl, e, lk, hcd⟩ := FL.ex
  subst e
  refine fnL_of (k := 47) lk hcd scListed (fun vs H Q h => ?_) fun A outer s H vs Q E hr hsp s1 I1 => ?_
  · obtain ⟨n, rfl, _⟩ := h
    rfl
  · obtain ⟨n, rfl, hn, hn2, q⟩ := hsp
    generalize hX : (cxOf CX0 P w K mg base ["_law_n", "_law_found", "_law_box"] "_law_listed" (defScope sListed) f cdv A outer s H E).nox = X at I1 ⊢
    have hc : Calm X := by
      intro x y h
      rw [← hX] at h
      exact h
    subst hX
    have hr46 := hr.mono (j := 46) (by decide)
    have hr4 := hr.mono (j := 4) (by decide)
    have hr2 := hr.mono (j := 2) (by decide)
    have body : ∃ t, PXsL True (cxOf CX0 P w K mg base ["_law_n", "_law_found", "_law_box"] "_law_listed" (defScope sListed) f cdv A outer s H E).nox (defBody sListed) t ∧ t { nx := fun _ H' => Q .non H', rt := Q } (start ["_law_n", "_law_found", "_law_box"] [.int n]) H := by
      refine ⟨_, pxs_cons (.ofP (PSL.of hc (ps_set (i := 1) scListed.nd rfl (.inl rfl) (pe_lst pa_nil))))
        (pxs_cons (pxl_forG hc hr (pgl_call hc FO hr46 (by rfl) O.gO O.O.kp O.bO (pa_cons (pv 0) pa_nil)) (pg_name (i := 2) scListed.nd rfl (Or.inl rfl))
          (.ofP (PSsL.of hc (pss_cons (ps_if (PW.pt (pw_or (pt_not (pt_val (pe_callB call_isi (by rfl) B.isinstance (by decide +kernel) (pa_cons (pv 2) (pa_cons (pe_glob (v := .ref C) (by rfl) TC'.mgC rfl) pa_nil)))))
              (pw_or (pt_cmpR op_ne (pe_prop (pv 2) TC'.cl Y.pM GM hr2 Y.bM .nil pass0 (by rfl)) (pv 0) (nomark _))
                (pw_or1 (pt_cmpR (op_neOwn GE hr2 Y.eqAt Y.eqFn Y.bE TC'.hm Y.neAt) (pv 2) (pe_make T.M GI hr4 (by rfl) TC'.mgC T.bI .nil pass0 (pa_cons (pv 0) (pa_cons (pe_prop (pv 2) TC'.cl Y.pR GR hr2 Y.bR .nil pass0 (by rfl)) pa_nil))) (nomark _))))))
              (pss_one (ps_ret pe_non)) pss_nil)
            (pss_one (ps_expr (pe_bm PySem.F.plainAttrs_list PySem.F.slot_list_append PySem.F.type_list_append mt_append (pv 1) (pa_cons (pe_callTy call_list_of (by rfl) B.list (by decide +kernel) (pa_cons (pe_prop (pv 2) TC'.cl Y.pR GR hr2 Y.bR .nil pass0 (by rfl)) pa_nil)) pa_nil))))))))
        (.ofP (PSsL.of hc (pss_one (ps_ret (pv 1)))))), ?_⟩
      refine ⟨Nat.zero_le _, fun p np => ?_⟩
      refine ⟨_, rfl, _, ⟨n, rfl, hn, hn2, rfl⟩, fun i σ H2 => ∃ y, σ = [some (.int n), some (.ref p), y] ∧ Same H H2 ∧ RowsAt H2 p ((walk n 12 []).take i), ⟨none, rfl, same_upd np, [], upd_same, fun q hq => absurd hq (by simp), rfl⟩, ?_, ?_⟩
      · rintro σ H2 H3 ⟨y, rfl, s2, r2⟩ s3
        rw [List.length_map, List.take_length] at r2
        exact ⟨_, rfl, q H3 p (s2.trans s3) (r2.same s3)⟩
      · rintro i φ σ H2 x H3 ⟨y, rfl, s2, r2⟩ hφ s3 hx
        rw [List.getElem?_map] at hφ
        obtain ⟨r, hr', rfl⟩ := Option.map_eq_some_iff.mp hφ
        obtain ⟨b, rfl, dx, td, t, kd, e, ht⟩ := hx
        obtain ⟨hup, hne, hgood⟩ := walk_mem 12 [] r trivial (List.mem_of_getElem? hr')
        have hlen := up_len hup (by omega)
        have hpos : 0 < r.length := List.length_pos_iff.mpr hne
        refine ⟨_, rfl, .ref b, .ref C, .ref C, .ref C, true, rfl, .own C, .base (.ins e TC'.cl TC'.ha TC'.hn TC'.htk TC'.hm), TC'.isC, true, rfl, iteN rfl ?_⟩
        refine ⟨_, rfl, b, dx, _, rfl, e, b, dx, _, .int n, rfl, e, rfl, _, rfl, rfl, _, rfl, iteN (decide_eq_true rfl) ?_⟩
        refine ⟨_, rfl, _, rfl, _, rfl, b, dx, _, rfl, e, b, dx, _, .ref t, rfl, e, rfl, fun x2 dx2 nx ndx ne2 => ?_⟩
        have s3a : Same H3 (upd (upd H3 dx2 (.own x2)) x2 (.ins C dx2 [])) := fun c o ec => by
          rw [upd_ne (ne_of_none ec nx), upd_ne (ne_of_none ec ndx)]
          exact ec
        refine ⟨x2, dx2, n, t, r, rfl, upd_same, hn, by omega, SqT.same ht s3a, hpos, by omega, hup, hgood, fun H4 td2 kd2 sb ex => ⟨rfl, ?_⟩⟩
        have s34 : Same H3 H4 := fun c o ec => by
          have hb : c ≠ x2 := ne_of_none ec nx
          refine sb c o hb ?_
          rw [upd_ne hb, upd_ne (ne_of_none ec ndx)]
          exact ec
        have e4 := s34 _ _ e
        have ht4 := SqT.same ht s34
        refine ⟨b, x2, dx, dx2, _, _, rfl, rfl, e4, ex, b, x2, dx, dx2, n, n, t, t, r, r, _, _, rfl, e4, ex, ⟨rfl, rfl⟩, ⟨rfl, rfl⟩, ht4, ht4, _, rfl, _, rfl, iteQ (by rw [eqv_shaped (shaped_ints r), decide_eq_true rfl]; rfl) ?_⟩
        obtain ⟨qs, hp3, hq3, hrows⟩ := (r2.same s3).same s34
        have hqlen : qs.length = i := by
          have h1 := congrArg List.length hrows
          rw [List.length_map, List.length_take] at h1
          have := (List.getElem?_eq_some_iff.mp hr').1
          omega
        have hlt : qs.length < sizeLine := by
          have h1 := walk_len n 12 []
          have h2 := (List.getElem?_eq_some_iff.mp hr').1
          have h3 : 2 ^ (n - firstOf []).toNat ≤ 2 ^ 12 := Nat.pow_le_pow_right (by decide) (by unfold firstOf; rw [if_pos rfl]; omega)
          have h4 : (2 : Nat) ^ 12 < sizeLine := by decide
          omega
        refine ⟨_, rfl, .inl ⟨rfl, _, .inl (.inl hp3)⟩, _, rfl, b, dx, _, rfl, e4, b, dx, _, .ref t, rfl, e4, rfl, t, _, rfl, .inr ht4, fun l nl => ?_⟩
        have npl : p ≠ l := fun z => by rw [← z, hp3] at nl; cases nl
        refine ⟨p, _, _, rfl, rfl, by rw [upd_ne npl]; exact hp3, by rw [List.length_map]; exact hlt, ?_⟩
        have tk : TupKeep H3 (upd (upd H4 l (.lst (r.map V.int))) p (.lst ((qs.map fun q => V.ref q.1) ++ [.ref l]))) := fun c xs ec => by
          have e1 := s34 _ _ ec
          rw [upd_ne (fun z => by rw [z, hp3] at e1; cases e1), upd_ne (ne_of_none e1 nl)]
          exact e1
        refine ⟨⟨_, rfl, fun c o ec => ?_, qs ++ [(l, r)], ?_, fun q hq => ?_, ?_⟩, tk⟩
        · rw [upd_ne (ne_of_none ec np)]
          exact same_upd nl _ _ (s34 _ _ (s3 _ _ (s2 _ _ ec)))
        · rw [upd_same, List.map_append]; rfl
        · rcases List.mem_append.mp hq with z | z
          · have h1 := hq3 q z
            have hqp : q.1 ≠ p := fun e => by
              rw [e, hp3] at h1
              have e2 : (qs.map fun q => V.ref q.1) = q.2.map V.int := by
                injection h1 with h1
                injection h1
              have hm : V.ref q.1 ∈ q.2.map V.int := by
                rw [← e2]
                exact List.mem_map.mpr ⟨q, z, rfl⟩
              obtain ⟨j, _, ej⟩ := List.mem_map.mp hm
              cases ej
            rw [upd_ne hqp, upd_ne (ne_of_none h1 nl)]
            exact h1
          · rw [List.mem_singleton.mp z]
            show (upd (upd H4 l _) p _) l = _
            rw [upd_ne (Ne.symm npl), upd_same]
        · rw [List.map_append, hrows, List.take_add_one, hr']; rfl
    obtain ⟨t, ht, hq⟩ := body
    refine (ht.run [] s1 _ H _ I1 hq).thn fun fl y ⟨more, m, q, k⟩ => ?_
    obtain rfl := m.tight trivial
    exact ⟨q, k.sleep, fun i x e => (k.bare i x e).elim .inl fun z => z.elim .inr fun z => absurd trivial z.1, k.size⟩
end
end TF
/-! ## TfPA -/
/-! _law_begun, _law_draw -/
namespace TF
open PySem PySem.Spec PySem.W PyProof.Rows L2
abbrev kS : Key := Sum.inr "script"
abbrev kA : Key := Sum.inr "at"
abbrev kL : Key := Sum.inr "left"
theorem kSA : kS ≠ kA := by decide +kernel
theorem kSL : kS ≠ kL := by decide +kernel
theorem kAL : kA ≠ kL := by decide +kernel
/-- the state of the draws -/
structure MAt (K : PySem.W.Frag) (H : Hp) (m a l : Addr) (ns : List Int) (k : Int) : Prop where
  ex : ∃ (kvs : List (Key × V)) (ls : List Int), H m = some (.dK kvs) ∧ kvs.length ≤ 3 ∧ valV kvs kS = some (.ref a) ∧ valV kvs kA = some (.int k) ∧ valV kvs kL = some (.ref l) ∧ H l = some (.lst (ls.map V.int)) ∧ ls.length = ns.length ∧ ∀ x ∈ ls, 0 ≤ x
  sc : SqL K H a (ns.map V.int)
  ne : a ≠ l
  nem : a ≠ m
theorem valV_at {κ : Type} [DecidableEq κ] {kvs : List (κ × V)} {k j : κ} {y : V} : valV (putK kvs k y) j = if j = k then some y else valV kvs j := valV_put kvs k j y
theorem putK_same {κ : Type} [DecidableEq κ] {kvs : List (κ × V)} {k : κ} {v y : V} (h : valV kvs k = some y) : (putK kvs k v).length = kvs.length := by
  unfold putK
  have : (kvs.any fun kv => decide (kv.1 = k)) = true := by rw [valV_any, h]; rfl
  rw [this, if_pos rfl, List.length_map]
theorem sqL_upd {K : PySem.W.Frag} {H : Hp} {a b : Addr} {o : HO} {xs : List V} (h : SqL K H a xs) (hb : a ≠ b) : SqL K (upd H b o) a xs := by
  rcases h with (h | ⟨o, h⟩) | h
  · exact .inl (.inl (by rw [upd_ne hb]; exact h))
  · exact .inl (.inr ⟨o, by rw [upd_ne hb]; exact h⟩)
  · exact .inr h
section
variable {P : Program} {w : World} {K : PySem.W.Frag} {mg : Str → Option Value} {base : Heap}
def spBegun (K : PySem.W.Frag) : Sp := fun vs H Q _ => ∃ (a : Addr) (ns : List Int), vs = [.ref a] ∧ SqL K H a (ns.map V.int) ∧ ns.length ≤ 63 ∧ (∀ l, H l = none → a ≠ l) ∧ ∀ H' m l, Same H H' → H m = none → H l = none → MAt K H' m a l ns 0 → Q (.ref m) H'
theorem ok_begun {f : Addr} {fd : FuncData} {k : Nat} (F : Fun K "_law_begun" "_law_begun" sBegun f fd) : FnOk P w K mg base CX0 (k + 1) f fd ["_law_script"] (spBegun K) := by
  refine F.ok scBegun (fun vs H Q E h => ?_) (fun cdv A outer s H vs Q E hr h => ?_)
  · obtain ⟨a, ns, rfl, _⟩ := h
    rfl
  · obtain ⟨a, ns, rfl, hS, hl, hal, q⟩ := h
    refine ⟨_, pss_one (ps_ret (pe_disp (pps_cons pe_str (pv 0) (pps_cons pe_str pe_int (pps_cons pe_str
      (pe_lc (own := [("_law_part", 1)]) (g := gName 1) (tt := tYes) rfl scBegun.nd (pi_list (pv 0)) (blkOk_by (own := [("_law_part", 1)]) (N := ["_law_script", "_law_part"]) (sc := defScope sBegun) (by decide +kernel)) (fun _ _ _ _ _ => pg_name (i := 1) scBegun.nd rfl (Or.inl rfl)) (fun _ _ _ _ _ => pts_nil)
        (fun _ _ _ _ _ => pe_ifExp (pt_cmpR op_ge (pv 1) (pe_op op_pow pe_int pe_int) (nomark _)) (pv 1) pe_int)) pps_nil))) (by rfl) (by rfl) (fun z => by cases z) (by decide))), ?_⟩
    intro p np
    have s1 : Same H (upd H p (.dK [])) := same_upd np
    have hS1 : SqL K (upd H p (.dK [])) a (ns.map V.int) := Same.seq s1 hS
    refine ⟨_, rfl, _, rfl, a, rfl, ⟨_, hS1⟩, fun l nl => ?_⟩
    refine lc_list (K := K) (a := a) (xs := ns.map V.int) (fun i H2 => Same (upd H p (.dK [])) H2 ∧ ∃ ls : List Int, H2 l = some (.lst (ls.map V.int)) ∧ ls.length = i ∧ ∀ x ∈ ls, 0 ≤ x) ⟨same_upd nl, [], upd_same, rfl, fun x hx => by simp at hx⟩ (fun i H2 _ p => Same.seq p.1 hS1) (fun i x H2 hx p2 => ?_) fun H2 p2 => ?_
    · obtain ⟨s2, ls, e, hlen, hpos⟩ := p2
      have hi : i < ns.length := by
        have := (List.getElem?_eq_some_iff.mp hx).1
        simpa using this
      rw [List.getElem?_map] at hx
      obtain ⟨z, hz, rfl⟩ := Option.map_eq_some_iff.mp hx
      refine ⟨rfl, ?_⟩
      unfold tYes
      dsimp only
      rw [if_pos rfl]
      have fin : ∀ v : Int, 0 ≤ v → ∃ acc, H2 l = some (.lst acc) ∧ acc.length < sizeLine ∧ Same (upd H p (.dK [])) (upd H2 l (.lst (acc ++ [.int v]))) ∧ ∃ ls : List Int, (upd H2 l (.lst (acc ++ [.int v]))) l = some (.lst (ls.map V.int)) ∧ ls.length = i + 1 ∧ ∀ x ∈ ls, 0 ≤ x := by
        intro v hv
        refine ⟨_, e, by rw [List.length_map]; exact small1000 (by omega), fun b o eb => ?_, ls ++ [v], ?_, by simp [hlen], fun x hx => ?_⟩
        · rw [upd_ne (ne_of_none eb nl)]
          exact s2 _ _ eb
        · rw [upd_same, List.map_append]; rfl
        · rcases List.mem_append.mp hx with z | z
          · exact hpos x z
          · rw [List.mem_singleton.mp z]; exact hv
      refine ⟨_, rfl, _, _, rfl, rfl, ⟨by decide, by decide, by decide⟩, _, _, rfl, rfl, _, rfl, ?_⟩
      by_cases hz2 : (10 : Int) ^ (18 : Int).toNat ≤ z
      · refine iteP (decide_eq_true hz2) ⟨_, rfl, fin z ?_⟩
        have : (0 : Int) ≤ (10 : Int) ^ (18 : Int).toNat := by decide
        omega
      · exact iteQ (decide_eq_false hz2) (fin 0 (by decide))
    · obtain ⟨s2, ls, e, hlen, hpos⟩ := p2
      have ep : H2 p = some (.dK []) := s2 _ _ upd_same
      have npl : l ≠ p := fun z => by rw [z, upd_same] at nl; cases nl
      have nlH : H l = none := by
        have z := nl
        rw [upd_ne npl] at z
        exact z
      refine ⟨ep, [(kS, .ref a), (kA, .int 0), (kL, .ref l)], rfl, by simp, ?_⟩
      have em : mergeK ([] : List (Key × V)) [(kS, .ref a), (kA, .int 0), (kL, .ref l)] = [(kS, .ref a), (kA, .int 0), (kL, .ref l)] := by
        have b1 : ¬ (Str.ofString "script" = Str.ofString "at") := by decide +kernel
        have b2 : ¬ (Str.ofString "script" = Str.ofString "left") := by decide +kernel
        have b3 : ¬ (Str.ofString "at" = Str.ofString "left") := by decide +kernel
        simp [mergeK, putK, b1, b2, b3]
      rw [em]
      have a1 : valV [(kS, V.ref a), (kA, .int 0), (kL, .ref l)] kS = some (.ref a) := valV_pos rfl
      have a2 : valV [(kS, V.ref a), (kA, .int 0), (kL, .ref l)] kA = some (.int 0) := by
        rw [valV_neg (fun z => kSA z)]; exact valV_pos rfl
      have a3 : valV [(kS, V.ref a), (kA, .int 0), (kL, .ref l)] kL = some (.ref l) := by
        rw [valV_neg (fun z => kSL z), valV_neg (fun z => kAL z)]; exact valV_pos rfl
      have sF : Same H (upd H2 p (.dK [(kS, .ref a), (kA, .int 0), (kL, .ref l)])) := fun b o eb => by
        rw [upd_ne (ne_of_none eb np)]
        exact s2 _ _ (s1 _ _ eb)
      refine q _ p l sF np nlH ⟨⟨_, ls, upd_same, by simp, a1, a2, a3, by rw [upd_ne npl]; exact e, by rw [hlen, List.length_map], hpos⟩, Same.seq sF hS, hal l nlH, hal p np⟩
end
end TF
/-! ## TfPB -/
/-! _law_draw -/
namespace TF
open PySem PySem.Spec PySem.W PyProof.Rows L2
theorem atI_at {α : Type} {xs : List α} {i : Int} {v : α} (h0 : 0 ≤ i) (h : xs[i.toNat]? = some v) : atI xs i = some v := by
  have e : i = ((i.toNat : Nat) : Int) := (Int.toNat_of_nonneg h0).symm
  rw [e]
  exact atI_nat h
theorem ixN_at {n : Nat} {i : Int} (h0 : 0 ≤ i) (h : i < n) : ixN n i = some i.toNat := by
  unfold ixN
  rw [if_pos h0, if_pos h]
theorem eqv_nilL (ms : List Int) : PyData.eqv (.list (ms.map .int)) (.list []) = ms.isEmpty := by
  cases ms with
  | nil => exact eqv_shaped (shaped_lst [])
  | cons x r => simp [PyData.eqv, PyData.eqvAll]
section
variable {P : Program} {w : World} {K : PySem.W.Frag} {mg : Str → Option Value} {base : Heap}
def spDraw (K : PySem.W.Frag) : Sp := fun vs H Q _ => ∃ (m a l : Addr) (ns : List Int) (k top : Int), vs = [.ref m, .int top] ∧ 0 < top ∧ top ≤ 1000 ∧ MAt K H m a l ns k ∧ 0 ≤ k ∧ k ≤ 1000 ∧ ns.length ≤ 63 ∧
  ∀ H' v, 0 ≤ v → v < top → (∀ b o, b ≠ m → b ≠ l → H b = some o → H' b = some o) → MAt K H' m a l ns (k + 1) → Q (.int v) H'
theorem neNilL_read {σ : L2.St} {H : Hp} {a m : Addr} {key : Key} {kvs : List (Key × V)} {ms : List Int} {Q : VK} (hv : σ[0]? = some (some (.ref m))) (hm : H m = some (.dK kvs)) (hk : valV kvs key = some (.ref a)) (ha : SqL K H a (ms.map V.int)) (hQ : ∀ H', Same H H' → Q (.bl (!ms.isEmpty)) H') :
    tOp (rNeD K) (tDGet (tVar 0) (tC (kV key))) (tLst tNil) σ H Q := by
  refine ⟨_, hv, m, _, rfl, by rw [← hk]; exact DGet.k hm, Nat.zero_le _, fun p np => ?_⟩
  have s1 : Same H (upd H p (.lst [])) := same_upd np
  refine ⟨_, _, .lst (Same.seq s1 ha) (dp_ints ms), .lst (.inl (.inl upd_same)) .nil, shaped_lst ms, shaped_lst [], ?_⟩
  rw [eqv_nilL]
  exact hQ _ s1
theorem dget_of {H : Hp} {m : Addr} {kvs : List (Key × V)} {k : Key} {v : V} (hm : H m = some (.dK kvs)) (hk : valV kvs k = some v) : DGet H m (kV k) (some v) := hk ▸ DGet.k hm
abbrev drawN : List Str := ["_law_m", "_law_top", "_law_k", "_law_spot", "_law_part", "_law_mixed"]
theorem draw_tail (f : Addr) (cdv : Value) (A : Around) (outer : List Env) (s : Shared) (H0 : Hp) (E : XK) :
    ∃ t, PSs (cxOf CX0 P w K mg base drawN "_law_draw" (defScope sDraw) f cdv A outer s H0 E).nox ((defBody sDraw).drop 5) t ∧
      ∀ (D : Ends) (m : Addr) (top kk spot part : Int) (y5 : Option V) (H : Hp), 0 < top → top ≤ 1000 → 0 ≤ kk → kk ≤ 1000 → 0 ≤ part → part < 1000000007 → (∀ v, 0 ≤ v → v < top → D.rt (.int v) H) → t D [some (.ref m), some (.int top), some (.int kk), some (.int spot), some (.int part), y5] H := by
  refine ⟨_, pss_cons (ps_set (i := 5) scDraw.nd rfl (Or.inl rfl) (pe_op op_mod (pe_op op_add (pe_op op_add (pe_op op_add (pe_op op_mul (pv 4) pe_int) (pe_op op_mul (pe_op op_mul pe_int (pv 2)) (pv 2))) (pe_op op_mul pe_int (pv 2))) pe_int) pe_int))
      (pss_cons (ps_set (i := 5) scDraw.nd rfl (Or.inl rfl) (pe_op op_mod (pe_op op_add (pe_op op_add (pe_op op_mul (pv 5) pe_int) (pe_op op_mul pe_int (pv 2))) pe_int) pe_int))
      (pss_one (ps_ret (pe_op op_mod (pe_op op_fdiv (pe_op op_mod (pe_op op_mul (pv 5) (pv 5)) pe_int) pe_int) (pv 1))))), ?_⟩
  intro D m top kk spot part y5 H ht ht2 hk hk2 hp hp2 q
  refine ⟨_, rfl, _, _, rfl, rfl, .inl ⟨by omega, by omega⟩, _, rfl, _, _, rfl, rfl, .inl ⟨by omega, by omega⟩, _, rfl, _, _, rfl, rfl, .inl ⟨by omega, by omega⟩, _, _, rfl, rfl, _, rfl, _, _, rfl, rfl, .inl ⟨by omega, by omega⟩, _, _, rfl, rfl, _, _, rfl, rfl, _, _, rfl, rfl, (by show (0 : Int) < 2147483647; decide), ?_⟩
  generalize hx : (part * 48271 + 7919 * kk * kk + 31 * kk + 17) % 2147483647 = x
  have x0 : 0 ≤ x := by rw [← hx]; exact Int.emod_nonneg _ (by decide)
  have x1 : x < 2147483647 := by rw [← hx]; exact Int.emod_lt_of_pos _ (by decide)
  refine ⟨.int x, by rw [← hx]; rfl, x, _, rfl, rfl, .inl ⟨by omega, by omega⟩, _, rfl, _, _, rfl, rfl, .inl ⟨by omega, by omega⟩, _, _, rfl, rfl, _, _, rfl, rfl, _, _, rfl, rfl, (by show (0 : Int) < 2147483629; decide), ?_⟩
  generalize hy : (x * 69619 + 104729 * kk + 5) % 2147483629 = y
  have y0 : 0 ≤ y := by rw [← hy]; exact Int.emod_nonneg _ (by decide)
  have y1 : y < 2147483629 := by rw [← hy]; exact Int.emod_lt_of_pos _ (by decide)
  refine ⟨.int y, by rw [← hy]; rfl, .int y, by rw [← hy]; rfl, y, y, rfl, rfl, .inl ⟨by omega, by omega⟩, _, _, rfl, rfl, (by show (0 : Int) < 1000000007; decide), _, _, rfl, rfl, ⟨(by decide : (0 : Int) < 11), (by decide : (11 : Int) < 1073741824)⟩, _, rfl, _, _, rfl, rfl, ht, ?_⟩
  exact q _ (Int.emod_nonneg _ (by omega)) (Int.emod_lt_of_pos _ ht)
theorem ok_draw {f : Addr} {fd : FuncData} {k : Nat} (F : Fun K "_law_draw" "_law_draw" sDraw f fd) (B : Bi mg) : FnOk P w K mg base CX0 (k + 1) f fd ["_law_m", "_law_top"] (spDraw K) := by
  refine F.ok scDraw (fun vs H Q E h => ?_) (fun cdv A outer s H vs Q E hr h => ?_)
  · obtain ⟨m, a, l, ns, k, top, rfl, _⟩ := h
    rfl
  · obtain ⟨m, a, l, ns, kk, top, rfl, ht, ht2, M, hk, hk2, hl, q⟩ := h
    have hu := hu_of hr
    obtain ⟨t, htail, qt⟩ := draw_tail (P := P) (w := w) (K := K) (mg := mg) (base := base) f cdv A outer s H E
    refine ⟨_, pss_cons (ps_set (i := 2) scDraw.nd rfl (Or.inl rfl) (pe_dget hu (pv 0) pe_str (fun _ _ => rfl)))
      (pss_cons (ps_dput hu (pv 0) pe_str (pe_op op_add (pv 2) pe_int) rfl)
      (pss_cons (ps_set (i := 3) scDraw.nd rfl (Or.inl rfl) (pe_op op_mod (pv 2) (pe_callB (call_max2 rfl) (by rfl) B.max (by decide +kernel) (pa_cons pe_int (pa_cons (pe_callB call_len_seq (by rfl) B.len PySem.boot_len (pa_cons (pe_dget hu (pv 0) pe_str (fun _ _ => rfl)) pa_nil)) pa_nil)))))
      (pss_cons (ps_if (PW.pt (pw_and (pt_cmpR (op_neD hr.units) (pe_dget hu (pv 0) pe_str (fun _ _ => rfl)) (pe_lst pa_nil) (nomark _)) (pw_and1 (pt_cmpR op_gt (pe_ix ix_list (pe_dget hu (pv 0) pe_str (fun _ _ => rfl)) (pv 3) (fun _ _ => rfl)) pe_int (nomark _)))))
        (pss_cons (ps_set (i := 4) scDraw.nd rfl (Or.inl rfl) (pe_ix ix_list (pe_dget hu (pv 0) pe_str (fun _ _ => rfl)) (pv 3) (fun _ _ => rfl)))
          (pss_cons (ps_asg (pe_op op_fdiv (pv 4) (pv 1)) (pg_sub (pe_dget hu (pv 0) pe_str (fun _ _ => rfl)) (pv 3) set_list)) (pss_one (ps_ret (pe_op op_mod (pv 4) (pv 1)))))) pss_nil)
      (pss_cons (ps_set (i := 4) scDraw.nd rfl (Or.inl rfl) (pe_ifExp (pt_cmpR (op_neD hr.units) (pe_dget hu (pv 0) pe_str (fun _ _ => rfl)) (pe_lst pa_nil) (nomark _)) (pe_op op_mod (pe_ix ix_list (pe_dget hu (pv 0) pe_str (fun _ _ => rfl)) (pv 3) (fun _ _ => rfl)) pe_int) pe_int))
      htail)))), ?_⟩
    obtain ⟨kvs, ls, hm, hkl, vS, vA, vL, hL, hll, hpos⟩ := M.ex
    refine ⟨_, rfl, m, .int kk, rfl, dget_of (k := kA) hm vA, ?_⟩
    refine ⟨_, rfl, kk, 1, rfl, rfl, _, rfl, m, _, rfl, DPut.k (k := kA) hm (small1000 (by omega)), ?_⟩
    generalize hkv : putK kvs kA (.int (kk + 1)) = kvs1
    have vS1 : valV kvs1 kS = some (.ref a) := by rw [← hkv, valV_at, if_neg kSA, vS]
    have vA1 : valV kvs1 kA = some (.int (kk + 1)) := by rw [← hkv, valV_at, if_pos rfl]
    have vL1 : valV kvs1 kL = some (.ref l) := by rw [← hkv, valV_at, if_neg (Ne.symm kAL), vL]
    have hkl1 : kvs1.length ≤ 3 := by rw [← hkv, putK_same vA]; exact hkl
    have em : (fun i j => V.int (i + j)) kk 1 = V.int (kk + 1) := rfl
    generalize hH1 : upd H m (.dK kvs1) = H1
    have hm1 : H1 m = some (.dK kvs1) := by rw [← hH1]; exact upd_same
    have nml : l ≠ m := fun z => by rw [z, hm] at hL; cases hL
    have hL1 : H1 l = some (.lst (ls.map V.int)) := by rw [← hH1, upd_ne nml]; exact hL
    have hS1 : SqL K H1 a (ns.map V.int) := by rw [← hH1]; exact sqL_upd M.sc M.nem
    refine ⟨_, rfl, _, rfl, m, .ref a, rfl, dget_of (k := kS) hm1 vS1, a, _, rfl, .inl hS1, 1, _, rfl, _, _, rfl, rfl, (by show (0 : Int) < _; split <;> omega), ?_⟩
    obtain ⟨sp, hsp⟩ : ∃ sp, sp = kk % (if (((ns.map V.int).length : Nat) : Int) > 1 then (((ns.map V.int).length : Nat) : Int) else 1) := ⟨_, rfl⟩
    have hslot : (some (some (V.int (kk % (if (((ns.map V.int).length : Nat) : Int) > 1 then (((ns.map V.int).length : Nat) : Int) else 1)))) : Option (Option V)) = some (some (V.int sp)) := by rw [hsp]
    have sp0 : 0 ≤ sp := by
      rw [hsp]
      refine Int.emod_nonneg _ ?_
      split <;> omega
    have sp1 : ns ≠ [] → sp < ns.length := fun hne => by
      have hlen : 0 < ns.length := List.length_pos_iff.mpr hne
      rw [hsp, List.length_map]
      split
      · exact Int.emod_lt_of_pos _ (by omega)
      · have := Int.emod_lt_of_pos kk (by decide : (0 : Int) < 1)
        omega
    refine neNilL_read (key := kL) rfl hm1 vL1 (.inl (.inl hL1)) fun H2 s2 => ⟨_, rfl, ?_⟩
    have hm2 := s2 _ _ hm1
    have hL2 := s2 _ _ hL1
    have hS2 := Same.seq s2 hS1
    apply cutP
    · intro body
      by_cases hls : ls = []
      · refine iteQ (by rw [hls]; rfl) (iteF ?_)
        exact body
      · have hns : ns ≠ [] := fun z => hls (List.eq_nil_of_length_eq_zero (by rw [hll, z]; rfl))
        have hsl : sp.toNat < ls.length := by have := sp1 hns; omega
        have hat : atI (ls.map V.int) sp = some (.int ls[sp.toNat]) := atI_at sp0 (by rw [List.getElem?_map, List.getElem?_eq_getElem hsl]; rfl)
        refine iteP (by cases ls with | nil => exact absurd rfl hls | cons x r => rfl) ?_
        refine ⟨_, rfl, m, .ref l, rfl, dget_of (k := kL) hm2 vL1, .int sp, hslot, l, _, sp, _, rfl, rfl, .inl (.inl hL2), hat, _, _, rfl, rfl, _, rfl, ?_⟩
        by_cases hp : 0 < ls[sp.toNat]
        · refine iteP (decide_eq_true hp) ?_
          refine ⟨_, rfl, m, .ref l, rfl, dget_of (k := kL) hm2 vL1, .int sp, hslot, l, _, sp, _, rfl, rfl, .inl (.inl hL2), hat, ?_⟩
          refine ⟨_, rfl, _, rfl, _, _, rfl, rfl, ⟨ht, by omega⟩, _, rfl, m, .ref l, rfl, dget_of (k := kL) hm2 vL1, .int sp, hslot, l, _, sp, sp.toNat, rfl, rfl, hL2, ixN_at sp0 (by rw [List.length_map]; omega), ?_⟩
          refine ⟨_, rfl, _, rfl, _, _, rfl, rfl, ht, q _ _ (Int.emod_nonneg _ (by omega)) (Int.emod_lt_of_pos _ ht) (fun b o hbm hbl e => ?_) ⟨⟨kvs1, ls.set sp.toNat (ls[sp.toNat] / top), ?_, hkl1, vS1, vA1, vL1, ?_, by simpa using hll, fun x hx => ?_⟩, ?_, M.ne, M.nem⟩⟩
          · rw [upd_ne hbl]
            refine s2 _ _ ?_
            rw [← hH1, upd_ne hbm]
            exact e
          · rw [upd_ne (Ne.symm nml)]
            exact hm2
          · rw [upd_same, List.map_set]
          · rcases List.mem_or_eq_of_mem_set hx with z | z
            · exact hpos x z
            · rw [z]
              exact Int.ediv_nonneg (Int.le_of_lt hp) (Int.le_of_lt ht)
          · exact sqL_upd hS2 M.ne
        · refine iteQ (decide_eq_false hp) ?_
          exact body
    · refine neNilL_read (key := kS) rfl hm2 vS1 hS2 fun H3 s3 => ⟨_, rfl, ?_⟩
      have s23 := s2.trans s3
      have fin : ∀ v, 0 ≤ v → v < top → Q (.int v) H3 := fun v v0 v1 => by
        refine q H3 v v0 v1 (fun b o hbm hbl e => ?_) ⟨⟨kvs1, ls, s23 _ _ hm1, hkl1, vS1, vA1, vL1, s23 _ _ hL1, hll, hpos⟩, Same.seq s3 hS2, M.ne, M.nem⟩
        refine s23 _ _ ?_
        rw [← hH1, upd_ne hbm]
        exact e
      have last : ∀ (part : Int), 0 ≤ part → part < 1000000007 → t { nx := fun _ H' => Q .non H', rt := Q } [some (.ref m), some (.int top), some (.int kk), some (.int sp), some (.int part), none] H3 := fun part p0 p1 => qt _ m top kk sp part none H3 ht ht2 hk hk2 p0 p1 fin
      rw [hsp] at last
      by_cases hns : ns = []
      · exact iteQ (by rw [hns]; rfl) (last 0 (by decide) (by decide))
      · have hsl : sp.toNat < ns.length := by have := sp1 hns; omega
        have hat : atI (ns.map V.int) sp = some (.int ns[sp.toNat]) := atI_at sp0 (by rw [List.getElem?_map, List.getElem?_eq_getElem hsl]; rfl)
        refine iteP (by cases ns with | nil => exact absurd rfl hns | cons x r => rfl) ?_
        refine ⟨_, rfl, m, .ref a, rfl, dget_of (k := kS) (s3 _ _ hm2) vS1, .int sp, hslot, a, _, sp, _, rfl, rfl, Same.seq s3 hS2, hat, _, _, rfl, rfl, (by show (0 : Int) < 1000000007; decide), ?_⟩
        exact last _ (Int.emod_nonneg _ (by decide)) (Int.emod_lt_of_pos _ (by decide))
end
end TF
/-! ## TfPC -/
/-! _law_fault -/
namespace TF
open PySem PySem.Spec PySem.W PyProof.Rows L2
def lawC1 (n low mid : Int) : Bool := decide (low < mid) && decide (2 * mid - low < n)
def lawC2 (n mx low mid : Int) : Bool := decide (low < mid) && (decide (n ≤ 2 * mid - low) && decide (2 * mid - low < n + mx))
def lawR (n mx low k mid : Int) : Bool := (lawC1 n low mid && decide (k = 2 * mid - low)) || (lawC2 n mx low mid && decide (k = 2 * mid - low - n))
def lawK (n mx : Int) (ms : List Int) (k : Int) : Bool := ms.any fun low => ms.any fun mid => lawR n mx low k mid
theorem law_serv {n : Int} {ms : List Int} (hn : 0 < n) (h : up n (-1) ms) (k : Int) : lawK n (ms.getLastD 0) ms k = servK n (ms.getLastD 0) ms k := by
  have key : ∀ low ∈ ms, ∀ mid ∈ ms, lawR n (ms.getLastD 0) low k mid = servR n (ms.getLastD 0) low k mid := fun low hl mid hm => by
    obtain ⟨l0, l1⟩ := up_all h low hl
    obtain ⟨m0, m1⟩ := up_all h mid hm
    unfold lawR servR servC lawC1 lawC2
    by_cases hlm : low < mid
    · rw [decide_eq_true hlm]
      by_cases hc : 2 * mid - low < n
      · have e1 : (2 * mid - low) / n = 0 := Int.ediv_eq_zero_of_lt (by omega) hc
        have e2 : (2 * mid - low) % n = 2 * mid - low := Int.emod_eq_of_lt (by omega) hc
        have e3 : ¬ n ≤ 2 * mid - low := by omega
        rw [e1, e2, decide_eq_true hc, decide_eq_false e3]
        simp
      · have e2 : (2 * mid - low) % n = 2 * mid - low - n := by
          have : (2 * mid - low) = (2 * mid - low - n) + n := by omega
          rw [this, Int.add_emod_right]
          have : 2 * mid - low - n + n - n = 2 * mid - low - n := by omega
          rw [this]
          exact Int.emod_eq_of_lt (by omega) (by omega)
        have e1 : ¬ (2 * mid - low) / n = 0 := fun z => by
          rw [Int.emod_def, z, Int.mul_zero] at e2
          omega
        have e4 : n ≤ 2 * mid - low := by omega
        rw [e2, decide_eq_false hc, decide_eq_false e1, decide_eq_true e4]
        by_cases h5 : 2 * mid - low < n + ms.getLastD 0
        · have h6 : 2 * mid - low - n < ms.getLastD 0 := by omega
          rw [decide_eq_true h5, decide_eq_true h6]; simp
        · have h6 : ¬ 2 * mid - low - n < ms.getLastD 0 := by omega
          rw [decide_eq_false h5, decide_eq_false h6]; simp
    · rw [decide_eq_false hlm]; simp
  unfold lawK servK
  rw [Bool.eq_iff_iff, List.any_eq_true, List.any_eq_true]
  constructor
  · rintro ⟨low, hl, h1⟩
    refine ⟨low, hl, ?_⟩
    rw [List.any_eq_true] at h1 ⊢
    obtain ⟨mid, hm, h2⟩ := h1
    exact ⟨mid, hm, by rw [← key low hl mid hm]; exact h2⟩
  · rintro ⟨low, hl, h1⟩
    refine ⟨low, hl, ?_⟩
    rw [List.any_eq_true] at h1 ⊢
    obtain ⟨mid, hm, h2⟩ := h1
    exact ⟨mid, hm, by rw [key low hl mid hm]; exact h2⟩
theorem merge_keys : ∀ (ms : List Int) (kvs : List (Key × V)) (S : Int → Bool), (∀ k : Int, (valV kvs (Sum.inl k : Key)).isSome = S k) →
    (mergeK kvs (ms.map fun x => ((Sum.inl x : Key), V.bl true))).length ≤ kvs.length + ms.length ∧ ∀ k : Int, (valV (mergeK kvs (ms.map fun x => ((Sum.inl x : Key), V.bl true))) (Sum.inl k : Key)).isSome = (ms.contains k || S k)
  | [], kvs, S, h => ⟨by simp [mergeK], fun k => by simpa [mergeK] using h k⟩
  | x :: r, kvs, S, h => by
    have e : mergeK kvs ((x :: r).map fun x => ((Sum.inl x : Key), V.bl true)) = mergeK (putK kvs (Sum.inl x) (.bl true)) (r.map fun x => ((Sum.inl x : Key), V.bl true)) := rfl
    rw [e]
    obtain ⟨h1, h2⟩ := merge_keys r (putK kvs (Sum.inl x) (.bl true)) (fun k => decide (k = x) || S k) (keys_put h)
    refine ⟨?_, fun k => ?_⟩
    · have := putK_len kvs (Sum.inl x : Key) (.bl true)
      rw [List.length_cons]
      omega
    · rw [h2 k]
      rw [List.contains_cons]
      by_cases hk : k = x
      · subst hk; simp
      · have : (k == x) = false := by simpa using hk
        rw [this, decide_eq_false hk]; simp
section
variable {P : Program} {w : World} {K : PySem.W.Frag} {mg : Str → Option Value} {base : Heap}
def spFault (K : PySem.W.Frag) : Sp := fun vs H Q _ => ∃ (n : Int) (a : Addr) (ms : List Int), vs = [.int n, .ref a] ∧ 0 < n ∧ n ≤ 1000 ∧ SqL K H a (ms.map V.int) ∧ 0 < ms.length ∧ ms.length ≤ 30 ∧ up n (-1) ms ∧
  (∀ H', Same H H' → goodB n ms = true → Q .non H') ∧ ∀ H' p, Same H H' → goodB n ms = false → Q (.ref p) H'
abbrev faultN : List Str := ["_law_n", "_law_row", "_law_inside", "_law_served", "_law_low", "_law_middle", "_law_left", "_law_one", "_law_r"]
theorem fault_tail (f : Addr) (cdv : Value) (A : Around) (outer : List Env) (s : Shared) (H0 : Hp) (E : XK) (B : Bi mg) {k : Nat} (hr : Room k (A.deeper (envOfC "_law_fault" (defScope sFault) s.heap.objs.size f cdv))) :
    ∃ t, PSs (cxOf CX0 P w K mg base faultN "_law_fault" (defScope sFault) f cdv A outer s H0 E).nox ((defBody sFault).drop 2) t ∧
      ∀ (D : Ends) (n : Int) (d e : Addr) (S1 S2 : Int → Bool) (m1 m2 : Nat) (y1 y4 y5 y6 y7 y8 : Option V) (H : Hp), 0 < n → n ≤ 1000 → KeysAt H d S1 m1 → KeysAt H e S2 m2 →
        (∀ H', Same H H' → ((List.range n.toNat).all fun r => S1 (r : Int) || S2 (r : Int)) = true → D.rt .non H') → (∀ H' p, Same H H' → ((List.range n.toNat).all fun r => S1 (r : Int) || S2 (r : Int)) = false → D.rt (.ref p) H') →
        t D [some (.int n), y1, some (.ref d), some (.ref e), y4, y5, y6, y7, y8] H := by
  have hu := hu_of hr
  refine ⟨_, pss_cons (ps_setLc (i := 6) (own := [("_law_r", 8)]) (g := gName 8) (tt := _) rfl scFault.nd rfl rfl (sw_true rfl rfl rfl (by decide +kernel)) (pi_range1 (by rfl) B.range (pa_cons (pv 0) pa_nil))
      (blkOk_by (own := [("_law_r", 8)]) (N := faultN) (sc := defScope sFault) (by decide +kernel)) (fun _ _ _ _ _ => pg_name (i := 8) scFault.nd rfl (Or.inl rfl))
      (fun _ _ _ _ _ => pts_one (PW.pt (pw_and (pt_cmp (pc_dnotin hu (pv 8) (pv 2))) (pw_and1 (pt_cmp (pc_dnotin hu (pv 8) (pv 3))))))) (fun _ _ _ _ _ => pv 8))
    (pss_one (ps_ret (pe_ifExp (pt_cmpR (r := rNeD K) (op_neD hr.units) (pv 6) (pe_lst pa_nil) (nomark _)) (pe_tup (pa_cons pe_str (pa_cons (pe_ix (r := rIxL K) ix_list (pv 6) pe_int (fun _ _ => rfl)) pa_nil))) pe_non))), ?_⟩
  intro D n d e S1 S2 m1 m2 y1 y4 y5 y6 y7 y8 H hn hn2 k1 k2 q1 q2
  refine ⟨_, rfl, n, rfl, by omega, by omega, fun l nl => ?_⟩
  refine lc_range (lo := 0) (n := n.toNat) (fun i H2 => Same H H2 ∧ ∃ ls : List Int, H2 l = some (.lst (ls.map V.int)) ∧ ls.length ≤ i ∧ ls.isEmpty = ((List.range n.toNat).take i).all fun r => S1 (r : Int) || S2 (r : Int))
    ⟨same_upd nl, [], upd_same, Nat.le_refl _, rfl⟩ (fun i H2 hi p => ?_) fun H2 p => ?_
  · obtain ⟨s2, ls, el, hlen, hemp⟩ := p
    have e0 : ((0 : Int) + (i : Int)) = (i : Int) := by omega
    rw [e0]
    refine ⟨rfl, ?_⟩
    obtain ⟨kvs, ed, _, hS1⟩ := k1.same s2
    obtain ⟨kvt, ee, _, hS2⟩ := k2.same s2
    have skip : (S1 (i : Int) || S2 (i : Int)) = true → Same H H2 ∧ ∃ ls : List Int, H2 l = some (.lst (ls.map V.int)) ∧ ls.length ≤ i + 1 ∧ ls.isEmpty = ((List.range n.toNat).take (i + 1)).all fun r => S1 (r : Int) || S2 (r : Int) := fun hc => by
      refine ⟨s2, ls, el, by omega, ?_⟩
      rw [List.take_add_one, range_take hi]
      show _ = ((List.range n.toNat).take i ++ [i]).all _
      rw [List.all_append, ← hemp]
      simp only [List.all_cons, List.all_nil, hc, Bool.and_true]
    refine ⟨_, rfl, _, rfl, d, _, rfl, DGet.k (k := Sum.inl (i : Int)) ed, _, rfl, ?_⟩
    rw [hS1]
    cases c1 : S1 (i : Int) with
    | true => exact iteF (iteF (skip (by rw [c1]; rfl)))
    | false =>
      refine iteT ⟨_, rfl, _, rfl, e, _, rfl, DGet.k (k := Sum.inl (i : Int)) ee, _, rfl, ?_⟩
      rw [hS2]
      cases c2 : S2 (i : Int) with
      | true => exact iteF (skip (by rw [c1, c2]; rfl))
      | false =>
        refine iteT ⟨_, rfl, _, el, by rw [List.length_map]; exact small1000 (by omega), fun b o eb => ?_, ls ++ [(i : Int)], ?_, by simp; omega, ?_⟩
        · rw [upd_ne (ne_of_none eb nl)]
          exact s2 _ _ eb
        · rw [upd_same, List.map_append]; rfl
        · rw [List.take_add_one, range_take hi]
          show _ = ((List.range n.toNat).take i ++ [i]).all _
          rw [List.all_append]
          simp [c1, c2]
  · obtain ⟨s2, ls, el, hlen, hemp⟩ := p
    rw [List.take_of_length_le (by simp)] at hemp
    refine ⟨_, rfl, Nat.zero_le _, fun p np => ?_⟩
    have s3 : Same H2 (upd H2 p (.lst [])) := same_upd np
    refine ⟨_, _, .lst (.inl (.inl (s3 _ _ el))) (dp_ints ls), .lst (.inl (.inl upd_same)) .nil, shaped_lst ls, shaped_lst [], ?_⟩
    rw [eqv_nilL]
    refine ⟨_, rfl, ?_⟩
    cases ls with
    | nil => exact iteF (q1 _ (s2.trans s3) hemp.symm)
    | cons x r =>
      refine iteT ⟨_, rfl, l, _, 0, _, rfl, rfl, .inl (.inl (s3 _ _ el)), atI_nat (xs := (x :: r).map V.int) (j := 0) (v := V.int x) rfl, by show 2 ≤ sizeLine; decide, fun p2 np2 => q2 _ p2 ((s2.trans s3).trans (same_upd np2)) hemp.symm⟩
end
end TF
/-! ## TfPD -/
/-! _law_fault: the loops -/
namespace TF
open PySem PySem.Spec PySem.W PyProof.Rows L2
def forBody (s : Stmt) : List Stmt := match s with
  | .For _ _ b _ _ => b
  | _ => []
abbrev innerF : List Stmt := forBody ((forBody ((defBody sFault).getD 1 (.Pass ⟨0, 0, 0, 0⟩))).getD 0 (.Pass ⟨0, 0, 0, 0⟩))
theorem KeysAt.put {H : Hp} {e : Addr} {S : Int → Bool} {m : Nat} (h : KeysAt H e S m) (x : Int) (v : V) (hm : m < 10000) : ∃ kvs, DPut H e (.int x) v (upd H e (.dK (putK kvs (Sum.inl x) v))) ∧ KeysAt (upd H e (.dK (putK kvs (Sum.inl x) v))) e (fun k => S k || decide (k = x)) (m + 1) := by
  obtain ⟨kvs, a, b, c⟩ := h
  refine ⟨kvs, DPut.k (k := Sum.inl x) a (Nat.lt_of_le_of_lt b (Nat.lt_trans hm (by decide))), _, upd_same, Nat.le_trans (putK_len _ _ _) (by omega), fun k => ?_⟩
  rw [keys_put c, Bool.or_comm]
section
variable {P : Program} {w : World} {K : PySem.W.Frag} {mg : Str → Option Value} {base : Heap}
theorem fault_B (f : Addr) (cdv : Value) (A : Around) (outer : List Env) (s : Shared) (H0 : Hp) (E : XK) {k : Nat} (hr : Room k (A.deeper (envOfC "_law_fault" (defScope sFault) s.heap.objs.size f cdv))) :
    ∃ t, PS (cxOf CX0 P w K mg base faultN "_law_fault" (defScope sFault) f cdv A outer s H0 E).nox (innerF.getD 1 (.Pass ⟨0, 0, 0, 0⟩)) t ∧
      ∀ (D : Ends) (n low mid : Int) (e : Addr) (S : Int → Bool) (m : Nat) (y1 y2 y6 y7 y8 : Option V) (H : Hp), KeysAt H e S m → m < 10000 →
        (∀ H', (∀ b o, b ≠ e → H b = some o → H' b = some o) → KeysAt H' e (fun k => S k || (lawC1 n low mid && decide (k = 2 * mid - low))) (m + 1) → D.nx [some (.int n), y1, y2, some (.ref e), some (.int low), some (.int mid), y6, y7, y8] H') →
        t D [some (.int n), y1, y2, some (.ref e), some (.int low), some (.int mid), y6, y7, y8] H := by
  have hu := hu_of hr
  refine ⟨_, ps_if (PW.pt (pw_and (pt_cmpR op_lt (pv 4) (pv 5) (nomark _)) (pw_and1 (pt_cmpR op_lt (pe_op op_sub (pe_op op_mul pe_int (pv 5)) (pv 4)) (pv 0) (nomark _)))))
    (pss_one (ps_dput hu (pv 3) (pe_op op_sub (pe_op op_mul pe_int (pv 5)) (pv 4)) pe_bl rfl)) pss_nil, ?_⟩
  intro D n low mid e S m y1 y2 y6 y7 y8 H hk hm q
  have skip : lawC1 n low mid = false → D.nx [some (.int n), y1, y2, some (.ref e), some (.int low), some (.int mid), y6, y7, y8] H := fun hc => by
    refine q H (fun _ _ _ z => z) ?_
    obtain ⟨kvs, a, b, c⟩ := hk
    exact ⟨kvs, a, by omega, fun k => by rw [c k, hc]; simp⟩
  refine ⟨_, rfl, _, rfl, _, _, rfl, rfl, _, rfl, ?_⟩
  by_cases h1 : low < mid
  · refine iteP (decide_eq_true h1) ⟨_, rfl, _, _, rfl, rfl, .inl ⟨by decide, by decide⟩, _, rfl, _, _, rfl, rfl, _, rfl, _, _, rfl, rfl, _, rfl, ?_⟩
    by_cases h2 : 2 * mid - low < n
    · obtain ⟨kvs, pt, ka⟩ := hk.put (2 * mid - low) (.bl true) hm
      refine iteP (decide_eq_true h2) ⟨_, rfl, _, rfl, _, _, rfl, rfl, .inl ⟨by decide, by decide⟩, _, rfl, _, _, rfl, rfl, e, _, rfl, pt, q _ (fun b o hb eb => by rw [upd_ne hb]; exact eb) ?_⟩
      obtain ⟨kvs2, a, b, c⟩ := ka
      refine ⟨kvs2, a, b, fun k => ?_⟩
      rw [c k]
      unfold lawC1
      rw [decide_eq_true h1, decide_eq_true h2]; rfl
    · refine iteQ (decide_eq_false h2) (skip ?_)
      unfold lawC1
      rw [decide_eq_false h2, Bool.and_false]
  · refine iteQ (decide_eq_false h1) (iteF (skip ?_))
    unfold lawC1
    rw [decide_eq_false h1]; rfl
theorem fault_C (f : Addr) (cdv : Value) (A : Around) (outer : List Env) (s : Shared) (H0 : Hp) (E : XK) {k : Nat} (hr : Room k (A.deeper (envOfC "_law_fault" (defScope sFault) s.heap.objs.size f cdv))) :
    ∃ t, PS (cxOf CX0 P w K mg base faultN "_law_fault" (defScope sFault) f cdv A outer s H0 E).nox (innerF.getD 2 (.Pass ⟨0, 0, 0, 0⟩)) t ∧
      ∀ (D : Ends) (n low mid : Int) (a e : Addr) (ms : List Int) (S : Int → Bool) (m : Nat) (y2 y6 y7 y8 : Option V) (H : Hp), KeysAt H e S m → m < 10000 → SqL K H a (ms.map V.int) → ms ≠ [] →
        (∀ H', (∀ b o, b ≠ e → H b = some o → H' b = some o) → KeysAt H' e (fun k => S k || (lawC2 n (ms.getLastD 0) low mid && decide (k = 2 * mid - low - n))) (m + 1) → D.nx [some (.int n), some (.ref a), y2, some (.ref e), some (.int low), some (.int mid), y6, y7, y8] H') →
        t D [some (.int n), some (.ref a), y2, some (.ref e), some (.int low), some (.int mid), y6, y7, y8] H := by
  have hu := hu_of hr
  refine ⟨_, ps_if (PW.pt (pw_and (pt_cmpR op_lt (pv 4) (pv 5) (nomark _)) (pw_and1 (pt_chain op_le op_lt (pv 0) (pe_op op_sub (pe_op op_mul pe_int (pv 5)) (pv 4)) (pe_op op_add (pv 0) (pe_ix (r := rIxL K) ix_list (pv 1) (pe_un un_neg pe_int) (fun _ _ => rfl)))))))
    (pss_one (ps_dput hu (pv 3) (pe_op op_sub (pe_op op_sub (pe_op op_mul pe_int (pv 5)) (pv 4)) (pv 0)) pe_bl rfl)) pss_nil, ?_⟩
  intro D n low mid a e ms S m y2 y6 y7 y8 H hk hm hS hms q
  have skip : lawC2 n (ms.getLastD 0) low mid = false → D.nx [some (.int n), some (.ref a), y2, some (.ref e), some (.int low), some (.int mid), y6, y7, y8] H := fun hc => by
    refine q H (fun _ _ _ z => z) ?_
    obtain ⟨kvs, a, b, c⟩ := hk
    exact ⟨kvs, a, by omega, fun k => by rw [c k, hc]; simp⟩
  have hat : atI (ms.map V.int) (-1) = some (.int (ms.getLastD 0)) := by
    have e : ms.map V.int = ms.dropLast.map V.int ++ [V.int (ms.getLastD 0)] := by
      have h1 : ms.getLastD 0 = ms.getLast hms := by simp [List.getLastD_eq_getLast?, List.getLast?_eq_some_getLast hms]
      rw [h1]
      have h2 := congrArg (List.map V.int) (List.dropLast_concat_getLast hms)
      rw [List.map_append] at h2
      exact h2.symm
    rw [e]
    exact atI_last _ _
  refine ⟨_, rfl, _, rfl, _, _, rfl, rfl, _, rfl, ?_⟩
  by_cases h1 : low < mid
  · refine iteP (decide_eq_true h1) ⟨_, rfl, _, rfl, _, _, rfl, rfl, .inl ⟨by decide, by decide⟩, _, rfl, _, _, rfl, rfl, _, _, rfl, rfl, _, rfl, ?_⟩
    by_cases h2 : n ≤ 2 * mid - low
    · refine iteP (decide_eq_true h2) ⟨_, rfl, _, rfl, 1, rfl, a, _, -1, _, rfl, rfl, hS, hat, _, _, rfl, rfl, _, _, rfl, rfl, _, rfl, ?_⟩
      by_cases h3 : 2 * mid - low < n + ms.getLastD 0
      · obtain ⟨kvs, pt, ka⟩ := hk.put (2 * mid - low - n) (.bl true) hm
        refine iteP (decide_eq_true h3) ⟨_, rfl, _, rfl, _, _, rfl, rfl, .inl ⟨by decide, by decide⟩, _, rfl, _, _, rfl, rfl, _, rfl, _, _, rfl, rfl, e, _, rfl, pt, q _ (fun b o hb eb => by rw [upd_ne hb]; exact eb) ?_⟩
        obtain ⟨kvs2, a2, b, c⟩ := ka
        refine ⟨kvs2, a2, b, fun k => ?_⟩
        rw [c k]
        unfold lawC2
        rw [decide_eq_true h1, decide_eq_true h2, decide_eq_true h3]; rfl
      · refine iteQ (decide_eq_false h3) (skip ?_)
        unfold lawC2
        rw [decide_eq_false h3]; simp
    · refine iteQ (decide_eq_false h2) ⟨_, rfl, iteF (skip ?_)⟩
      unfold lawC2
      rw [decide_eq_false h2]; simp
  · refine iteQ (decide_eq_false h1) (iteF (skip ?_))
    unfold lawC2
    rw [decide_eq_false h1]; rfl
end
end TF
/-! ## TfPE -/
/-! _law_fault -/
namespace TF
open PySem PySem.Spec PySem.W PyProof.Rows L2
theorem paired_of {α β : Type} {R : α → β → Prop} : ∀ {as : List α} {bs : List β}, as.length = bs.length → (∀ (j : Nat) (a : α) (b : β), as[j]? = some a → bs[j]? = some b → R a b) → Paired R as bs
  | [], [], _, _ => .nil
  | a :: as, b :: bs, h, f => .cons (f 0 a b rfl rfl) (paired_of (by simpa using h) fun j x y h1 h2 => f (j + 1) x y h1 h2)
  | [], b :: bs, h, _ => by simp at h
  | a :: as, [], h, _ => by simp at h
section
variable {P : Program} {w : World} {K : PySem.W.Frag} {mg : Str → Option Value} {base : Heap}
theorem fault_head (f : Addr) (cdv : Value) (A : Around) (outer : List Env) (s : Shared) (H0 : Hp) (E : XK) (B : Bi mg) {k : Nat} (hr : Room k (A.deeper (envOfC "_law_fault" (defScope sFault) s.heap.objs.size f cdv))) :
    ∃ t, PS (cxOf CX0 P w K mg base faultN "_law_fault" (defScope sFault) f cdv A outer s H0 E).nox ((defBody sFault).getD 0 (.Pass ⟨0, 0, 0, 0⟩)) t ∧
      ∀ (D : Ends) (n : Int) (a : Addr) (ms : List Int) (H : Hp), SqL K H a (ms.map V.int) → ms.length ≤ 30 →
        (∀ H' d e, Same H H' → H e = none → d ≠ e → KeysAt H' d ms.contains ms.length → KeysAt H' e (fun _ => false) 0 → D.nx [some (.int n), some (.ref a), some (.ref d), some (.ref e), none, none, none, none, none] H') → t D [some (.int n), some (.ref a), none, none, none, none, none, none, none] H := by
  refine ⟨_, ps_asg (pe_tup (pa_cons (pe_callTy (call_dictP rfl) (by rfl) B.dict (by decide +kernel) (pa_cons (pe_lc (own := [("_law_one", 7)]) (g := gName 7) (tt := tYes) rfl scFault.nd (pi_list (pv 1))
      (blkOk_by (own := [("_law_one", 7)]) (N := faultN) (sc := defScope sFault) (by decide +kernel)) (fun _ _ _ _ _ => pg_name (i := 7) scFault.nd rfl (Or.inl rfl)) (fun _ _ _ _ _ => pts_nil) (fun _ _ _ _ _ => pe_tup (pa_cons (pv 7) (pa_cons pe_bl pa_nil)))) pa_nil)) (pa_cons pe_dnewK pa_nil)))
    (pg_tup rfl (pgs_cons (pg_name (i := 2) scFault.nd rfl (Or.inr rfl)) (pgs_cons (pg_name (i := 3) scFault.nd rfl (Or.inr rfl)) pgs_nil))), ?_⟩
  intro D n a ms H hS hl q
  refine ⟨_, rfl, a, rfl, ⟨_, hS⟩, fun L nL => ?_⟩
  refine lc_list (K := K) (a := a) (xs := ms.map V.int) (fun i H2 => Same H H2 ∧ ∃ ts : List Addr, H2 L = some (.lst (ts.map V.ref)) ∧ ts.length = i ∧ ∀ (j : Nat) (t : Addr) (x : Int), ts[j]? = some t → ms[j]? = some x → H2 t = some (.tup [.int x, .bl true]))
    ⟨same_upd nL, [], upd_same, rfl, fun j t x h => by simp at h⟩ (fun i H2 _ p => Same.seq p.1 hS) (fun i x H2 hx p => ?_) fun H2 p => ?_
  · obtain ⟨s2, ts, eL, hlen, hts⟩ := p
    rw [List.getElem?_map] at hx
    obtain ⟨z, hz, rfl⟩ := Option.map_eq_some_iff.mp hx
    have hi : i < ms.length := (List.getElem?_eq_some_iff.mp hz).1
    refine ⟨rfl, ?_⟩
    unfold tYes
    dsimp only
    rw [if_pos rfl]
    refine ⟨_, rfl, by show 2 ≤ sizeLine; decide, fun t nt => ?_⟩
    have nLt : L ≠ t := fun e => by rw [← e, eL] at nt; cases nt
    refine ⟨_, by rw [upd_ne nLt]; exact eL, by rw [List.length_map]; exact small1000 (by omega), fun b o eb => ?_, ts ++ [t], ?_, by simp [hlen], fun j u x hj hx2 => ?_⟩
    · rw [upd_ne (ne_of_none eb nL)]
      exact same_upd nt _ _ (s2 _ _ eb)
    · rw [upd_same, List.map_append]; rfl
    · by_cases hji : j < i
      · rw [List.getElem?_append_left (by omega)] at hj
        have h1 := hts j u x hj hx2
        have huL : u ≠ L := fun e => by rw [e, eL] at h1; cases h1
        rw [upd_ne huL, upd_ne (ne_of_none h1 nt)]
        exact h1
      · have hj2 := (List.getElem?_eq_some_iff.mp hj).1
        rw [List.length_append, List.length_singleton] at hj2
        have hji2 : j = i := by omega
        subst hji2
        rw [List.getElem?_append_right (by omega), hlen] at hj
        simp at hj
        subst hj
        rw [hz] at hx2
        cases hx2
        rw [upd_ne (Ne.symm nLt), upd_same]
  · obtain ⟨s2, ts, eL, hlen, hts⟩ := p
    rw [List.length_map] at hlen
    refine ⟨L, ts, ms.map fun x => ((Sum.inl x : Key), V.bl true), rfl, .inl (.inl eL), paired_of (by rw [hlen, List.length_map]) (fun j t kv h1 h2 => ?_), fun d nd => fun e ne => ?_⟩
    · rw [List.getElem?_map] at h2
      obtain ⟨x, hx, rfl⟩ := Option.map_eq_some_iff.mp h2
      exact .inl (.inl (hts j t x h1 hx))
    · refine ⟨by show 2 ≤ sizeLine; decide, fun T nT => ⟨T, [.ref d, .ref e], rfl, .inl (.inl upd_same), rfl, _, _, rfl, _, _, rfl, rfl, ?_⟩⟩
      obtain ⟨m1, m2⟩ := merge_keys ms [] (fun _ => false) (fun k => rfl)
      generalize hH3 : upd H2 d (.dK (mergeK [] (ms.map fun x => ((Sum.inl x : Key), V.bl true)))) = H3 at nd ne nT ⊢
      have e3 : H3 d = some (.dK (mergeK [] (ms.map fun x => ((Sum.inl x : Key), V.bl true)))) := by rw [← hH3]; exact upd_same
      have nde : d ≠ e := fun z => by rw [← z, e3] at ne; cases ne
      have s23 : Same H2 H3 := by rw [← hH3]; exact same_upd nd
      have s34 : Same H3 (upd H3 e (.dK [])) := same_upd ne
      have s45 := same_upd (o := HO.tup [V.ref d, V.ref e]) nT
      refine q _ d e (((s2.trans s23).trans s34).trans s45) (Same.free (s2.trans s23) ne) nde ⟨_, s45 _ _ (s34 _ _ e3), by simpa using m1, fun k => by rw [m2 k, Bool.or_false]⟩ ⟨[], s45 _ _ upd_same, by simp, fun k => rfl⟩
theorem ok_fault {f : Addr} {fd : FuncData} {k : Nat} (F : Fun K "_law_fault" "_law_fault" sFault f fd) (B : Bi mg) : FnOk P w K mg base CX0 (k + 1) f fd ["_law_n", "_law_row"] (spFault K) := by
  refine F.ok scFault (fun vs H Q E h => ?_) (fun cdv A outer s H vs Q E hr h => ?_)
  · obtain ⟨n, a, ms, rfl, _⟩ := h
    rfl
  · obtain ⟨n, a, ms, rfl, hn, hn2, hS, hl0, hl, hup, q1, q2⟩ := h
    have hu := hu_of hr
    obtain ⟨t0, h0, qh⟩ := fault_head (P := P) (w := w) (K := K) (mg := mg) (base := base) f cdv A outer s H E B hr
    obtain ⟨tB, hB, qB⟩ := fault_B (P := P) (w := w) (K := K) (mg := mg) (base := base) f cdv A outer s H E hr
    obtain ⟨tC, hC, qC⟩ := fault_C (P := P) (w := w) (K := K) (mg := mg) (base := base) f cdv A outer s H E hr
    obtain ⟨t, ht, qt⟩ := fault_tail (P := P) (w := w) (K := K) (mg := mg) (base := base) f cdv A outer s H E B hr
    refine ⟨_, pss_cons h0 (pss_cons (ps_for PassesOwn.never rfl (pi_list (pv 1)) (pg_name (i := 4) scFault.nd rfl (Or.inl rfl)) (pss_one (ps_for PassesOwn.never rfl (pi_list (pv 1)) (pg_name (i := 5) scFault.nd rfl (Or.inl rfl))
        (pss_cons (ps_if (PW.pt (pw_and (pt_cmpR op_ne (pv 4) (pv 5) (nomark _)) (pw_and1 (pt_cmp (pc_din hu (pe_op op_mod (pe_op op_sub (pe_op op_mul pe_int (pv 5)) (pv 4)) (pv 0)) (pv 2))))))
            (pss_one (ps_ret (pe_tup (pa_cons pe_str (pa_cons (pv 4) (pa_cons (pv 5) (pa_cons (pe_op op_mod (pe_op op_sub (pe_op op_mul pe_int (pv 5)) (pv 4)) (pv 0)) pa_nil))))))) pss_nil)
          (pss_cons hB (pss_one hC)))))) ht), ?_⟩
    refine qh _ n a ms H hS hl fun H1 d e s1 ne nde kd ke => ?_
    have hms : ms ≠ [] := List.length_pos_iff.mp hl0
    have hS1 := Same.seq s1 hS
    -- what stays: all but e
    have seqE : ∀ {Hx : Hp}, (∀ b o, b ≠ e → H1 b = some o → Hx b = some o) → SqL K Hx a (ms.map V.int) := fun {Hx} fr => by
      have hae : ∀ o, H a = some o → a ≠ e := fun o h => ne_of_none h ne
      rcases hS with (h | ⟨o, h⟩) | h
      · exact .inl (.inl (fr _ _ (hae _ h) (s1 _ _ h)))
      · exact .inl (.inr ⟨o, fr _ _ (hae _ h) (s1 _ _ h)⟩)
      · exact .inr h
    have kdE : ∀ {Hx : Hp}, (∀ b o, b ≠ e → H1 b = some o → Hx b = some o) → KeysAt Hx d ms.contains ms.length := fun {Hx} fr => by
      obtain ⟨kvs, x, y, z⟩ := kd
      exact ⟨kvs, fr _ _ nde x, y, z⟩
    have sameE : ∀ {Hx : Hp}, (∀ b o, b ≠ e → H1 b = some o → Hx b = some o) → Same H Hx := fun {Hx} fr b o h => fr _ _ (ne_of_none h ne) (s1 _ _ h)
    refine ⟨_, rfl, a, rfl, ⟨_, hS1⟩, for_list (xs := ms.map V.int) (fun i σ H2 => ∃ y4 y5 y6 y7 y8, σ = [some (.int n), some (.ref a), some (.ref d), some (.ref e), y4, y5, y6, y7, y8] ∧ (∀ b o, b ≠ e → H1 b = some o → H2 b = some o) ∧
        KeysAt H2 e (fun k => (ms.take i).any fun low => ms.any fun mid => lawR n (ms.getLastD 0) low k mid) (i * (2 * ms.length)) ∧ (ms.take i).all (fun low => ms.all fun mid => !clash n ms low mid) = true)
      ⟨_, _, _, _, _, rfl, fun _ _ _ z => z, ?_, rfl⟩ (fun i σ H2 _ p => ?_) (fun i x σ H2 hx p => ?_) fun σ H2 p => ?_⟩
    · obtain ⟨kvs, x, y, z⟩ := ke
      exact ⟨kvs, x, by omega, fun k => by rw [z k]; rfl⟩
    · obtain ⟨_, _, _, _, _, _, fr, _⟩ := p
      exact seqE fr
    · obtain ⟨y4, y5, y6, y7, y8, rfl, fr, k2, al⟩ := p
      obtain ⟨low, rfl, hlow, mlow⟩ := mem_of_get hx
      have hi : i < ms.length := (List.getElem?_eq_some_iff.mp hlow).1
      refine ⟨_, rfl, a, rfl, ⟨_, seqE fr⟩, for_list (xs := ms.map V.int) (fun j σ H3 => ∃ y5 y6 y7 y8, σ = [some (.int n), some (.ref a), some (.ref d), some (.ref e), some (.int low), y5, y6, y7, y8] ∧ (∀ b o, b ≠ e → H1 b = some o → H3 b = some o) ∧
          KeysAt H3 e (fun k => ((ms.take i).any fun low => ms.any fun mid => lawR n (ms.getLastD 0) low k mid) || (ms.take j).any fun mid => lawR n (ms.getLastD 0) low k mid) (i * (2 * ms.length) + 2 * j) ∧ (ms.take j).all (fun mid => !clash n ms low mid) = true)
        ⟨_, _, _, _, rfl, fr, by simpa using k2, rfl⟩ (fun j σ H3 _ p => ?_) (fun j x σ H3 hx p => ?_) fun σ H3 p => ?_⟩
      · obtain ⟨_, _, _, _, _, fr3, _⟩ := p
        exact seqE fr3
      · obtain ⟨z5, z6, z7, z8, rfl, fr3, k3, al3⟩ := p
        obtain ⟨mid, rfl, hmid, mmid⟩ := mem_of_get hx
        have hj : j < ms.length := (List.getElem?_eq_some_iff.mp hmid).1
        have hij : i * (2 * ms.length) + 2 * j + 1 < 10000 := by
          have : i * (2 * ms.length) ≤ 29 * 60 := Nat.mul_le_mul (by omega) (by omega)
          omega
        refine ⟨_, rfl, _, rfl, rfl, _, rfl, ?_⟩
        by_cases hc : clash n ms low mid = true
        · have hc2 := hc
          unfold clash at hc2
          rw [Bool.and_eq_true] at hc2
          have e1 : ¬ low = mid := fun z => by rw [decide_eq_true z] at hc2; simp at hc2
          have e1' : decide (V.int low = V.int mid) = false := decide_eq_false fun z => e1 (V.int.inj z)
          obtain ⟨kvs, x, y, z⟩ := kdE fr3
          refine iteP (by rw [e1']; rfl) ⟨_, rfl, _, _, rfl, rfl, .inl ⟨by decide, by decide⟩, _, rfl, _, _, rfl, rfl, _, rfl, _, _, rfl, rfl, hn, _, rfl, d, _, rfl, DGet.k (k := Sum.inl ((2 * mid - low) % n)) x, _, rfl, ?_⟩
          refine iteP (by rw [z]; exact hc2.2) ⟨_, rfl, _, rfl, _, rfl, _, _, rfl, rfl, .inl ⟨by decide, by decide⟩, _, rfl, _, _, rfl, rfl, _, rfl, _, _, rfl, rfl, hn, by show 4 ≤ sizeLine; decide, fun p np => q2 _ p ((sameE fr3).trans (same_upd np)) ?_⟩
          unfold goodB
          rw [not_free mlow mmid hc]; rfl
        · have hc' : clash n ms low mid = false := by
            cases e : clash n ms low mid with
            | false => rfl
            | true => exact absurd e hc
          apply cutP
          · intro body
            by_cases e1 : low = mid
            · refine iteQ (by rw [e1]; simp) (iteF ?_)
              exact body
            · have e1' : decide (V.int low = V.int mid) = false := decide_eq_false fun z => e1 (V.int.inj z)
              obtain ⟨kvs, x, y, z⟩ := kdE fr3
              refine iteP (by rw [e1']; rfl) ⟨_, rfl, _, _, rfl, rfl, .inl ⟨by decide, by decide⟩, _, rfl, _, _, rfl, rfl, _, rfl, _, _, rfl, rfl, hn, _, rfl, d, _, rfl, DGet.k (k := Sum.inl ((2 * mid - low) % n)) x, _, rfl, ?_⟩
              refine iteQ ?_ ?_
              · rw [z]
                unfold clash at hc'
                rw [decide_eq_false e1] at hc'
                simpa using hc'
              · exact body
          · refine qB _ n low mid e _ _ _ _ _ _ _ H3 k3 (by omega) fun H4 fr4 k4 => ?_
            have fr14 : ∀ b o, b ≠ e → H1 b = some o → H4 b = some o := fun b o hb h => fr4 _ _ hb (fr3 _ _ hb h)
            refine qC _ n low mid a e ms _ _ _ _ _ _ H4 k4 (by omega) (seqE fr14) hms fun H5 fr5 k5 => ?_
            refine ⟨_, _, _, _, rfl, fun b o hb h => fr5 _ _ hb (fr14 _ _ hb h), ?_, all_take hmid al3 (by rw [hc']; rfl)⟩
            obtain ⟨kvs, x, y, z⟩ := k5
            refine ⟨kvs, x, by omega, fun k => ?_⟩
            rw [z k]
            dsimp only
            rw [any_take hmid]
            unfold lawR
            simp only [Bool.or_assoc]
      · obtain ⟨z5, z6, z7, z8, rfl, fr3, k3, al3⟩ := p
        rw [List.length_map, List.take_length] at al3 k3
        refine ⟨_, _, _, _, _, rfl, fr3, ?_, all_take hlow al al3⟩
        obtain ⟨kvs, x, y, z⟩ := k3
        refine ⟨kvs, x, by rw [Nat.succ_mul]; exact y, fun k => ?_⟩
        rw [z k]
        dsimp only
        rw [any_take hlow]
    · obtain ⟨y4, y5, y6, y7, y8, rfl, fr, k2, al⟩ := p
      rw [List.length_map, List.take_length] at al k2
      have hg : goodB n ms = (List.range n.toNat).all fun r => ms.contains (r : Int) || lawK n (ms.getLastD 0) ms (r : Int) := by
        unfold goodB coverB
        have : freeB n ms = true := al
        rw [this, Bool.true_and]
        congr 1
        funext r
        rw [law_serv hn hup]
      refine qt _ n d e ms.contains (lawK n (ms.getLastD 0) ms) _ _ _ _ _ _ _ _ H2 hn hn2 (kdE fr) k2 (fun H' s' e' => q1 H' ((sameE fr).trans s') (by rw [hg]; exact e')) fun H' p s' e' => q2 H' p ((sameE fr).trans s') (by rw [hg]; exact e')
end
end TF
/-! ## TfPF -/
/-! _law_sets -/
namespace TF
open PySem PySem.Spec PySem.W PyProof.Rows L2
def subs (n : Int) : Nat → List (List Int)
  | 0 => [[]]
  | i + 1 => (subs n i).map (fun r => (n - 1 - (i : Int)) :: r) ++ subs n i
theorem subs_len (n : Int) : ∀ i, (subs n i).length = 2 ^ i
  | 0 => rfl
  | i + 1 => by
    show (_ ++ _ : List (List Int)).length = _
    rw [List.length_append, List.length_map, subs_len n i, Nat.pow_succ]; omega
theorem subs_elem (n : Int) : ∀ i, ∀ r ∈ subs n i, r.length ≤ i
  | 0, r, h => by rw [List.mem_singleton.mp (show r ∈ [[]] from h)]; exact Nat.le_refl _
  | i + 1, r, h => by
    rcases List.mem_append.mp (show r ∈ _ ++ _ from h) with z | z
    · obtain ⟨x, hx, rfl⟩ := List.mem_map.mp z
      have := subs_elem n i x hx
      rw [List.length_cons]; omega
    · have := subs_elem n i r z
      omega
def RowsQ (H : Hp) (p : Addr) (qs : List (Addr × List Int)) : Prop := H p = some (.lst (qs.map fun q => V.ref q.1)) ∧ ∀ q ∈ qs, H q.1 = some (.lst (q.2.map V.int))
theorem RowsQ.same {H H' : Hp} {p : Addr} {qs : List (Addr × List Int)} (h : RowsQ H p qs) (s : Same H H') : RowsQ H' p qs := ⟨s _ _ h.1, fun q hq => s _ _ (h.2 q hq)⟩
theorem RowsQ.add {H : Hp} {L t : Addr} {qs : List (Addr × List Int)} {r : List Int} (h : RowsQ H L qs) (ht : H t = some (.lst (r.map V.int))) (hL : t ≠ L) (hq : ∀ q ∈ qs, q.1 ≠ L) : RowsQ (upd H L (.lst ((qs.map fun q => V.ref q.1) ++ [.ref t]))) L (qs ++ [(t, r)]) := by
  refine ⟨by rw [upd_same, List.map_append]; rfl, fun q hm => ?_⟩
  rcases List.mem_append.mp hm with z | z
  · rw [upd_ne (hq q z)]; exact h.2 q z
  · rw [List.mem_singleton.mp z]
    show (upd H L _) t = _
    rw [upd_ne hL]; exact ht
section
variable {P : Program} {w : World} {K : PySem.W.Frag} {mg : Str → Option Value} {base : Heap}
def spSets : Sp := fun vs H Q _ => ∃ n : Int, vs = [.int n] ∧ 0 < n ∧ n ≤ 12 ∧ ∀ (H' : Hp) (p : Addr) (qs : List (Addr × List Int)), Same H H' → RowsQ H' p (qs.mergeSort fun p q => decide (p.2 ≤ q.2)) → qs.map (·.2) = (subs n n.toNat).filter (fun r => !r.isEmpty) → Q (.ref p) H'
abbrev setsN : List Str := ["_law_n", "_law_found", "_law_r", "_law_row"]
theorem ok_sets {f : Addr} {fd : FuncData} {k : Nat} (F : Fun K "_law_sets" "_law_sets" sSets f fd) (B : Bi mg) : FnOk P w K mg base CX0 (k + 1) f fd ["_law_n"] spSets := by
  refine F.ok scSets (fun vs H Q E h => ?_) (fun cdv A outer s H vs Q E hr h => ?_)
  · obtain ⟨n, rfl, _⟩ := h
    rfl
  · obtain ⟨n, rfl, hn, hn2, q⟩ := h
    have hu16 : (A.deeper (envOfC "_law_sets" (defScope sSets) s.heap.objs.size f cdv)).units + 16 < cLine := by have := hr.units; omega
    refine ⟨_, pss_cons (ps_set (i := 1) scSets.nd rfl (Or.inl rfl) (pe_lst (pa_cons (pe_lst pa_nil) pa_nil)))
      (pss_cons (ps_for PassesOwn.never rfl (pi_range3 (by rfl) B.range (pa_cons (pe_op op_sub (pv 0) pe_int) (pa_cons (pe_un un_neg pe_int) (pa_cons (pe_un un_neg pe_int) pa_nil)))) (pg_name (i := 2) scSets.nd rfl (Or.inr rfl))
        (pss_one (ps_set (i := 1) scSets.nd rfl (Or.inl rfl) (pe_op op_cat (pe_lc (own := [("_law_row", 3)]) (g := gName 3) (tt := tYes) rfl scSets.nd (pi_list (pv 1)) (blkOk_by (own := [("_law_row", 3)]) (N := setsN) (sc := defScope sSets) (by decide +kernel))
          (fun _ _ _ _ _ => pg_name (i := 3) scSets.nd rfl (Or.inl rfl)) (fun _ _ _ _ _ => pts_nil) (fun _ _ _ _ _ => pe_op op_cat (pe_lst (pa_cons (pv 2) pa_nil)) (pv 3))) (pv 1)))))
      (pss_one (ps_ret (pe_callB (cr_sortedRows hu16) (by rfl) B.sorted (by decide +kernel) (pa_cons (pe_lc (own := [("_law_row", 3)]) (g := gName 3) (tt := _) rfl scSets.nd (pi_list (pv 1)) (blkOk_by (own := [("_law_row", 3)]) (N := setsN) (sc := defScope sSets) (by decide +kernel))
          (fun _ _ _ _ _ => pg_name (i := 3) scSets.nd rfl (Or.inl rfl)) (fun _ _ _ _ _ => pts_one (pt_cmpR (r := rNeD K) (op_neD hr.units) (pv 3) (pe_lst pa_nil) (nomark _))) (fun _ _ _ _ _ => pv 3)) pa_nil))))), ?_⟩
    refine ⟨Nat.zero_le _, fun e ne => ⟨by show 1 ≤ sizeLine; decide, fun p np => ?_⟩⟩
    have hep : e ≠ p := fun z => by rw [← z, upd_same] at np; cases np
    have s0 : Same H (upd (upd H e (.lst [])) p (.lst [.ref e])) := (same_upd ne).trans (same_upd np)
    have r0 : RowsQ (upd (upd H e (.lst [])) p (.lst [.ref e])) p [(e, [])] := ⟨upd_same, fun q hq => by
      rw [List.mem_singleton.mp hq]
      show (upd (upd H e (.lst [])) p _) e = _
      rw [upd_ne hep, upd_same]; rfl⟩
    refine ⟨_, rfl, _, _, rfl, rfl, 1, rfl, 1, rfl, n - 1, -1, -1, _, rfl, RgC.neg (by omega) (by omega) (by decide) (by decide), ?_⟩
    have ecnt : (n - 1 - -1).toNat = n.toNat := by omega
    rw [ecnt]
    refine for_rangeC (lo := n - 1) (c := -1) (n := n.toNat) (fun i σ H2 => ∃ p y2 y3 qs, σ = [some (.int n), some (.ref p), y2, y3] ∧ Same H H2 ∧ RowsQ H2 p qs ∧ qs.map (·.2) = subs n i)
      ⟨p, _, _, _, rfl, s0, r0, rfl⟩ (fun i σ H2 hi pp => ?_) fun σ H2 pp => ?_
    · obtain ⟨p, y2, y3, qs, rfl, s2, rq, hq⟩ := pp
      have hql : qs.length = 2 ^ i := by
        have := congrArg List.length hq
        rw [List.length_map, subs_len] at this
        exact this
      have h2i : 2 ^ i ≤ 2 ^ 12 := Nat.pow_le_pow_right (by decide) (by omega)
      have h12 : (2 : Nat) ^ 12 + 2 ^ 12 < sizeLine := by decide
      refine ⟨_, rfl, p, rfl, ⟨_, .inl (.inl rq.1)⟩, fun L nL => ?_⟩
      refine lc_list (K := K) (a := p) (xs := qs.map fun q => V.ref q.1) (fun j H3 => Same H2 H3 ∧ ∃ qs', RowsQ H3 L qs' ∧ (∀ q ∈ qs', q.1 ≠ L) ∧ qs'.map (·.2) = ((subs n i).take j).map fun r => (n - 1 - (i : Int)) :: r) ⟨same_upd nL, [], ⟨upd_same, fun q hq => by simp at hq⟩, fun q hq => by simp at hq, by simp⟩
        (fun j H3 _ pp => .inl (.inl (pp.1 _ _ rq.1))) (fun j x H3 hx pp => ?_) fun H3 pp => ?_
      · obtain ⟨s3, qs', rq', hne, hq'⟩ := pp
        rw [List.getElem?_map] at hx
        obtain ⟨z, hz, rfl⟩ := Option.map_eq_some_iff.mp hx
        have hj : j < qs.length := (List.getElem?_eq_some_iff.mp hz).1
        have hsub : (subs n i)[j]? = some z.2 := by rw [← hq, List.getElem?_map, hz]; rfl
        have hzr := s3 _ _ (rq.2 z (List.mem_of_getElem? hz))
        refine ⟨rfl, ?_⟩
        unfold tYes
        dsimp only
        rw [if_pos rfl]
        have hq'l : qs'.length = j := by
          have := congrArg List.length hq'
          rw [List.length_map, List.length_map, List.length_take, subs_len] at this
          omega
        have hzl : z.2.length ≤ 1000000 := by
          have := subs_elem n i z.2 (List.mem_of_getElem? hsub)
          omega
        have hsz : ([V.int (n - 1 + (i : Int) * -1)] : List V).length + (z.2.map V.int).length ≤ sizeLine := by
          rw [List.length_map, List.length_singleton]
          have : 1000002 < sizeLine := by decide
          omega
        refine ⟨_, rfl, by show 1 ≤ sizeLine; decide, fun u nu => ⟨_, rfl, u, z.1, _, _, rfl, rfl, upd_same, same_upd nu _ _ hzr, hsz, fun t nt => ?_⟩⟩
        have su := same_upd (o := HO.lst [V.int (n - 1 + (i : Int) * -1)]) nu
        have st := same_upd (o := HO.lst ([V.int (n - 1 + (i : Int) * -1)] ++ z.2.map V.int)) nt
        have sut := su.trans st
        have rqt := rq'.same sut
        have eL := rqt.1
        have htL : t ≠ L := fun e => by
          have h1 := (rq'.same su).1
          rw [e, h1] at nt; cases nt
        have ht : (upd (upd H3 u (.lst [V.int (n - 1 + (i : Int) * -1)])) t (.lst ([V.int (n - 1 + (i : Int) * -1)] ++ z.2.map V.int))) t = some (.lst (((n - 1 - (i : Int)) :: z.2).map V.int)) := by
          rw [upd_same]
          have e1 : n - 1 + (i : Int) * -1 = n - 1 - i := by omega
          rw [e1]; rfl
        refine ⟨_, eL, by rw [List.length_map]; omega, fun b o eb => ?_, qs' ++ [(t, (n - 1 - (i : Int)) :: z.2)], rqt.add ht htL hne, fun q hm => ?_, ?_⟩
        · rw [upd_ne (ne_of_none eb nL)]
          exact sut _ _ (s3 _ _ eb)
        · rcases List.mem_append.mp hm with y | y
          · exact hne q y
          · rw [List.mem_singleton.mp y]; exact htL
        · rw [List.map_append, hq', List.take_add_one, hsub, List.map_append]; rfl
      · obtain ⟨s3, qs', rq', hne, hq'⟩ := pp
        rw [List.length_map, hql, ← subs_len n i, List.take_length] at hq'
        have rq3 := rq.same s3
        have hq'l : qs'.length = 2 ^ i := by
          have := congrArg List.length hq'
          rw [List.length_map, List.length_map, subs_len] at this
          exact this
        refine ⟨_, rfl, L, p, _, _, rfl, rfl, rq'.1, rq3.1, by rw [List.length_map, List.length_map]; omega, fun p2 np2 => ⟨p2, _, _, qs' ++ qs, rfl, (s2.trans s3).trans (same_upd np2), ⟨by rw [upd_same, List.map_append], fun q hm => ?_⟩, ?_⟩⟩
        · rcases List.mem_append.mp hm with y | y
          · exact same_upd np2 _ _ (rq'.2 q y)
          · exact same_upd np2 _ _ (rq3.2 q y)
        · rw [List.map_append, hq', hq]; rfl
    · obtain ⟨p, y2, y3, qs, rfl, s2, rq, hq⟩ := pp
      have hql : qs.length = 2 ^ n.toNat := by
        have := congrArg List.length hq
        rw [List.length_map, subs_len] at this
        exact this
      have h2i : 2 ^ n.toNat ≤ 2 ^ 12 := Nat.pow_le_pow_right (by decide) (by omega)
      have h12 : (2 : Nat) ^ 12 + 2 ^ 12 < sizeLine := by decide
      refine ⟨_, rfl, p, rfl, ⟨_, .inl (.inl rq.1)⟩, fun L nL => ?_⟩
      refine lc_list (K := K) (a := p) (xs := qs.map fun q => V.ref q.1) (fun j H3 => Same H2 H3 ∧ ∃ qs', RowsQ H3 L qs' ∧ (∀ q ∈ qs', q.1 ≠ L) ∧ qs'.length ≤ j ∧ qs'.map (·.2) = ((subs n n.toNat).take j).filter (fun r => !r.isEmpty)) ⟨same_upd nL, [], ⟨upd_same, fun q hq => by simp at hq⟩, fun q hq => by simp at hq, Nat.le_refl _, by simp⟩
        (fun j H3 _ pp => .inl (.inl (pp.1 _ _ rq.1))) (fun j x H3 hx pp => ?_) fun H3 pp => ?_
      · obtain ⟨s3, qs', rq', hne, hlen', hq'⟩ := pp
        rw [List.getElem?_map] at hx
        obtain ⟨z, hz, rfl⟩ := Option.map_eq_some_iff.mp hx
        have hj : j < qs.length := (List.getElem?_eq_some_iff.mp hz).1
        have hsub : (subs n n.toNat)[j]? = some z.2 := by rw [← hq, List.getElem?_map, hz]; rfl
        have hzr := s3 _ _ (rq.2 z (List.mem_of_getElem? hz))
        refine ⟨rfl, ?_⟩
        refine ⟨_, rfl, Nat.zero_le _, fun u nu => ?_⟩
        have su := same_upd (o := HO.lst []) nu
        have hzr2 := su _ _ hzr
        have rqu := rq'.same su
        refine ⟨_, _, .lst (.inl (.inl hzr2)) (dp_ints z.2), .lst (.inl (.inl upd_same)) .nil, shaped_lst z.2, shaped_lst [], ?_⟩
        rw [eqv_nilL]
        refine ⟨_, rfl, ?_⟩
        cases hem : z.2.isEmpty with
        | true =>
          refine iteF ⟨s3.trans su, qs', rqu, hne, by omega, ?_⟩
          rw [List.take_add_one, hsub, List.filter_append, hq']
          simp [hem]
        | false =>
          have hzL : z.1 ≠ L := fun e => ne_of_none (rq.2 z (List.mem_of_getElem? hz)) nL e
          refine iteT ⟨_, rfl, _, rqu.1, by rw [List.length_map]; omega, fun b o eb => ?_, qs' ++ [(z.1, z.2)], rqu.add hzr2 hzL hne, fun q hm => ?_, by simp; omega, ?_⟩
          · rw [upd_ne (ne_of_none eb nL)]
            exact su _ _ (s3 _ _ eb)
          · rcases List.mem_append.mp hm with y | y
            · exact hne q y
            · rw [List.mem_singleton.mp y]; exact hzL
          · rw [List.map_append, hq', List.take_add_one, hsub, List.filter_append]
            simp [hem]
      · obtain ⟨s3, qs', rq', hne, hlen', hq'⟩ := pp
        rw [List.length_map, hql, ← subs_len n n.toNat, List.take_length] at hq'
        refine ⟨L, qs', rfl, .inl (.inl rq'.1), fun q hm => .inl (.inl (rq'.2 q hm)), fun p2 np2 => ?_⟩
        have s4 := same_upd (o := HO.lst ((qs'.mergeSort fun p q => decide (p.2 ≤ q.2)).map fun q => V.ref q.1)) np2
        refine q _ p2 qs' ((s2.trans s3).trans s4) ⟨upd_same, fun q hm => s4 _ _ (rq'.2 q (List.mem_mergeSort.mp hm))⟩ hq'
end
end TF
/-! ## TfQ -/
/-! the plain law: the walk gives the sorted sets without fault -/
namespace TF
open PySem PySem.Spec PySem.W PyProof.Rows L2
theorem app_lt {a b : List Int} : ∀ ms : List Int, a < b → ms ++ a < ms ++ b
  | [], h => h
  | x :: r, h => List.cons_lt_cons_iff.mpr (.inr ⟨rfl, app_lt r h⟩)
theorem nil_lt (x : Int) (t : List Int) : ([] : List Int) < x :: t := List.nil_lt_cons x t
theorem pre_lt (ms : List Int) (x : Int) (t : List Int) : ms < ms ++ x :: t := by
  have := app_lt ms (nil_lt x t)
  rwa [List.append_nil] at this
theorem walk_pre {n : Int} : ∀ (d : Nat) (ms r : List Int), r ∈ walk n d ms → ∃ t, r = ms ++ t := by
  have own : ∀ ms r : List Int, r ∈ own1 n ms → ∃ t, r = ms ++ t := fun ms r h => by
    unfold own1 at h
    split at h
    · exact ⟨[], by rw [List.mem_singleton.mp h, List.append_nil]⟩
    · simp at h
  intro d
  induction d with
  | zero => exact fun ms r h => own ms r h
  | succ d ih =>
    intro ms r h
    rcases List.mem_append.mp (show r ∈ own1 n ms ++ _ from h) with z | z
    · exact own ms r z
    · obtain ⟨i, hi, z⟩ := List.mem_flatMap.mp z
      split at z
      · obtain ⟨t, e⟩ := ih _ r z
        exact ⟨_, by rw [e, List.append_assoc]⟩
      · simp at z
theorem own_pw (n : Int) (ms : List Int) : (own1 n ms).Pairwise (· < ·) := by
  unfold own1
  split <;> simp
theorem walk_pw (n : Int) : ∀ (d : Nat) (ms : List Int), (walk n d ms).Pairwise (· < ·)
  | 0, ms => own_pw n ms
  | d + 1, ms => by
    show (own1 n ms ++ _).Pairwise _
    rw [List.pairwise_append]
    refine ⟨own_pw n ms, ?_, fun a ha b hb => ?_⟩
    · rw [List.pairwise_flatMap]
      refine ⟨fun i hi => ?_, ?_⟩
      · split
        · exact walk_pw n d _
        · exact List.Pairwise.nil
      · refine List.pairwise_lt_range.imp fun {i j} hij x hx y hy => ?_
        split at hx
        · split at hy
          · obtain ⟨t, rfl⟩ := walk_pre d _ x hx
            obtain ⟨u, rfl⟩ := walk_pre d _ y hy
            rw [List.append_assoc, List.append_assoc]
            refine app_lt ms (List.cons_lt_cons_iff.mpr (.inl ?_))
            omega
          · simp at hy
        · simp at hx
    · obtain ⟨i, hi, z⟩ := List.mem_flatMap.mp hb
      split at z
      · obtain ⟨t, rfl⟩ := walk_pre d _ b z
        have : a = ms := by
          unfold own1 at ha
          split at ha
          · exact List.mem_singleton.mp ha
          · simp at ha
        rw [this, List.append_assoc]
        exact pre_lt ms _ _
      · simp at z
theorem free_pre {n : Int} {a b : List Int} (h : freeB n (a ++ b) = true) : freeB n a = true := by
  unfold freeB at h ⊢
  rw [List.all_eq_true] at h ⊢
  intro low hl
  have h1 := h low (List.mem_append_left _ hl)
  rw [List.all_eq_true] at h1 ⊢
  intro mid hm
  have h2 := h1 mid (List.mem_append_left _ hm)
  unfold clash at h2 ⊢
  cases e : a.contains ((2 * mid - low) % n) with
  | false => simp
  | true =>
    have : (a ++ b).contains ((2 * mid - low) % n) = true := by
      rw [List.contains_iff_mem] at e ⊢
      exact List.mem_append_left _ e
    rw [this] at h2
    exact h2
theorem up_at {n : Int} : ∀ {b x : Int} {ms t : List Int}, up n b (ms ++ x :: t) → (ms = [] → b < x) ∧ (ms ≠ [] → ms.getLastD 0 < x) ∧ x < n
  | b, x, [], t, ⟨h1, h2, _⟩ => ⟨fun _ => h1, fun e => absurd rfl e, h2⟩
  | b, x, [y], t, ⟨h1, h2, h3, h4, _⟩ => ⟨fun e => by simp at e, fun _ => h3, h4⟩
  | b, x, y :: z :: r, t, ⟨h1, h2, h3⟩ => by
    obtain ⟨a1, a2, a3⟩ := up_at (ms := z :: r) h3
    refine ⟨fun e => by simp at e, fun _ => ?_, a3⟩
    have := a2 (by simp)
    simpa [List.getLastD_eq_getLast?, List.getLast?_cons_cons] using this
theorem mem_walk {n : Int} : ∀ (d : Nat) (t ms : List Int), up n (-1) (ms ++ t) → goodB n (ms ++ t) = true → ms ++ t ≠ [] → (n - firstOf ms).toNat ≤ d → ms ++ t ∈ walk n d ms := by
  have own : ∀ ms : List Int, goodB n ms = true → ms ≠ [] → ms ∈ own1 n ms := fun ms h1 h2 => by
    unfold own1 ownB
    have : (!ms.isEmpty) = true := by cases ms with | nil => exact absurd rfl h2 | cons x r => rfl
    rw [this, h1]
    simp
  intro d
  induction d with
  | zero =>
    intro t ms hu hg hne hd
    cases t with
    | nil =>
      rw [List.append_nil] at hg hne ⊢
      exact own ms hg hne
    | cons x t =>
      obtain ⟨a1, a2, a3⟩ := up_at hu
      have : firstOf ms ≤ x := by
        unfold firstOf
        split
        · rename_i e; have := a1 e; omega
        · rename_i e; have := a2 e; omega
      omega
  | succ d ih =>
    intro t ms hu hg hne hd
    cases t with
    | nil =>
      rw [List.append_nil] at hg hne ⊢
      exact List.mem_append_left _ (own ms hg hne)
    | cons x t =>
      obtain ⟨a1, a2, a3⟩ := up_at hu
      have hf : firstOf ms ≤ x := by
        unfold firstOf
        split
        · rename_i e; have := a1 e; omega
        · rename_i e; have := a2 e; omega
      refine List.mem_append_right _ (List.mem_flatMap.mpr ⟨(x - firstOf ms).toNat, List.mem_range.mpr (by omega), ?_⟩)
      have ex : firstOf ms + (((x - firstOf ms).toNat : Nat) : Int) = x := by omega
      rw [ex]
      have e2 : ms ++ x :: t = (ms ++ [x]) ++ t := by rw [List.append_assoc]; rfl
      have hfr : freeB n (ms ++ [x]) = true := by
        have : freeB n (ms ++ x :: t) = true := by
          unfold goodB at hg
          rw [Bool.and_eq_true] at hg
          exact hg.1
        rw [e2] at this
        exact free_pre this
      rw [if_pos hfr, e2]
      refine ih t (ms ++ [x]) (by rw [← e2]; exact hu) (by rw [← e2]; exact hg) (by simp) ?_
      rw [first_snoc]; omega
theorem subs_mem {n : Int} : ∀ (i : Nat) (r : List Int), r ∈ subs n i ↔ up n (n - 1 - (i : Int)) r
  | 0, r => by
    constructor
    · intro h
      rw [List.mem_singleton.mp (show r ∈ [[]] from h)]
      trivial
    · intro h
      cases r with
      | nil => exact List.mem_singleton.mpr rfl
      | cons x t =>
        obtain ⟨h1, h2, _⟩ := h
        omega
  | i + 1, r => by
    have e : n - 1 - ((i + 1 : Nat) : Int) = n - 1 - (i : Int) - 1 := by omega
    rw [e]
    constructor
    · intro h
      rcases List.mem_append.mp (show r ∈ _ ++ _ from h) with z | z
      · obtain ⟨t, ht, rfl⟩ := List.mem_map.mp z
        have := (subs_mem i t).mp ht
        refine ⟨by omega, by omega, this⟩
      · have := (subs_mem i r).mp z
        cases r with
        | nil => trivial
        | cons x t =>
          obtain ⟨h1, h2, h3⟩ := this
          exact ⟨by omega, h2, h3⟩
    · intro h
      cases r with
      | nil => exact List.mem_append_right _ ((subs_mem i []).mpr trivial)
      | cons x t =>
        obtain ⟨h1, h2, h3⟩ := h
        by_cases hx : x = n - 1 - (i : Int)
        · refine List.mem_append_left _ (List.mem_map.mpr ⟨t, (subs_mem i t).mpr (by rw [← hx]; exact h3), by rw [hx]⟩)
        · exact List.mem_append_right _ ((subs_mem i (x :: t)).mpr ⟨by omega, h2, h3⟩)
theorem subs_nodup {n : Int} : ∀ i : Nat, (subs n i).Nodup
  | 0 => by
    show ([[]] : List (List Int)).Nodup
    simp
  | i + 1 => by
    show (_ ++ _ : List (List Int)).Nodup
    rw [List.nodup_append]
    refine ⟨?_, subs_nodup i, fun a ha b hb e => ?_⟩
    · exact List.Pairwise.map _ (fun a b h e => h (List.cons.inj e).2) (subs_nodup i)
    · obtain ⟨t, _, rfl⟩ := List.mem_map.mp ha
      subst e
      have := (subs_mem i _).mp hb
      have h1 : n - 1 - (i : Int) < n - 1 - (i : Int) := this.1
      omega
theorem due_eq {n : Int} (hn : 0 < n) (hn2 : n ≤ 12) (qs : List (Addr × List Int)) (h : qs.map (·.2) = (subs n n.toNat).filter (fun r => !r.isEmpty)) :
    ((qs.mergeSort fun p q => decide (p.2 ≤ q.2)).map (·.2)).filter (goodB n) = walk n 12 [] := by
  have pm : ((qs.mergeSort fun p q => decide (p.2 ≤ q.2)).map (·.2)).Perm ((subs n n.toNat).filter (fun r => !r.isEmpty)) := by
    rw [← h]
    exact (List.mergeSort_perm _ _).map _
  have pw : ((qs.mergeSort fun p q => decide (p.2 ≤ q.2)).map (·.2)).Pairwise (· ≤ ·) := by
    rw [List.pairwise_map]
    have base := List.pairwise_mergeSort (le := fun (p q : Addr × List Int) => decide (p.2 ≤ q.2)) (fun a b c h1 h2 => by
        rw [decide_eq_true_iff] at h1 h2 ⊢
        exact List.le_trans h1 h2) (fun a b => by
        rcases List.le_total a.2 b.2 with z | z
        · rw [decide_eq_true z]; rfl
        · rw [decide_eq_true z, Bool.or_true]) qs
    exact base.imp fun {a b} h => by
      rw [decide_eq_true_iff] at h
      exact h
  have nd : ((qs.mergeSort fun p q => decide (p.2 ≤ q.2)).map (·.2)).Nodup := pm.nodup_iff.mpr ((subs_nodup _).filter _)
  have e0 : n - 1 - ((n.toNat : Nat) : Int) = -1 := by omega
  refine List.Perm.eq_of_pairwise (le := (· ≤ ·)) (fun a b _ _ h1 h2 => List.le_antisymm h1 h2) (pw.filter _) ((walk_pw n 12 []).imp fun {a b} h => List.le_of_lt h) ?_
  have nw : (walk n 12 []).Nodup := (walk_pw n 12 []).imp fun {a b} h (e : a = b) => by
    rw [e] at h
    exact List.lt_irrefl b h
  refine (List.perm_ext_iff_of_nodup (nd.filter _) nw).mpr fun r => ?_
  rw [List.mem_filter, pm.mem_iff, List.mem_filter, subs_mem, e0]
  constructor
  · rintro ⟨⟨h1, h2⟩, h3⟩
    have hne : r ≠ [] := fun z => by rw [z] at h2; simp at h2
    have := mem_walk 12 r [] h1 h3 hne (by unfold firstOf; rw [if_pos rfl]; omega)
    exact this
  · intro hm
    obtain ⟨h1, h2, h3⟩ := walk_mem 12 [] r trivial hm
    refine ⟨⟨h1, ?_⟩, h3⟩
    cases r with
    | nil => exact absurd rfl h2
    | cons x t => rfl
end TF
/-! ## TfR -/
/-! _law_right -/
namespace TF
open PySem PySem.Spec PySem.W PyProof.Rows L2
section
variable {P : Program} {w : World} {K : PySem.W.Frag} {mg : Str → Option Value} {base : Heap}
theorem dp_rows {H : Hp} : ∀ qs : List (Addr × List Int), (∀ q ∈ qs, H q.1 = some (.lst (q.2.map V.int))) → DpAll K H (qs.map fun q => V.ref q.1) ((qs.map (·.2)).map rowD)
  | [], _ => .nil
  | q :: r, h => .cons (.lst (.inl (.inl (h q List.mem_cons_self))) (dp_ints q.2)) (dp_rows r fun z hz => h z (List.mem_cons_of_mem _ hz))
theorem dp_list {H : Hp} {p : Addr} {qs : List (Addr × List Int)} (h : RowsQ H p qs) : Dp K H (.ref p) (.list ((qs.map (·.2)).map rowD)) := .lst (.inl (.inl h.1)) (dp_rows qs h.2)
structure TR (K : PySem.W.Frag) (mg : Str → Option Value) (fW fF fL : Addr) (dW dF dL : FuncData) : Prop where
  W : Fun K "_law_sets" "_law_sets" sSets fW dW
  bW : Binds K dW ["_law_n"] []
  gW : mg "_law_sets" = some (.ref fW)
  F : Fun K "_law_fault" "_law_fault" sFault fF dF
  bF : Binds K dF ["_law_n", "_law_row"] []
  gF : mg "_law_fault" = some (.ref fF)
  L : Fun K "_law_listed" "_law_listed" sListed fL dL
  bL : Binds K dL ["_law_n"] []
  gL : mg "_law_listed" = some (.ref fL)
variable {fW fF fL : Addr} {dW dF dL : FuncData}
def spRight : SpL := fun vs H Q => ∃ n : Int, vs = [.int n] ∧ 0 < n ∧ n ≤ 12 ∧ ∀ H', Same H H' → Q (.bl true) H'
theorem fnL_right {f : Addr} {fd : FuncData} (FR : Fun K "_law_right" "_law_right" sRight f fd) (B : Bi mg) (R : TR K mg fW fF fL dW dF dL) (FL : FnL P w K mg base 48 fL dL ["_law_n"] spListed) : FnL P w K mg base 49 f fd ["_law_n"] spRight := by
  have GW : FnOk P w K mg base CX0 1 fW dW ["_law_n"] spSets := ok_sets R.W B
  have GF : FnOk P w K mg base CX0 1 fF dF ["_law_n", "_law_row"] (spFault K) := ok_fault R.F B
  obtain ⟨oc, od, kV, doc, pm, an, cdv, ct, osl, e, lk, hcd⟩ := FR.ex
  subst e
  refine fnL_of (k := 48) lk hcd scRight (fun vs H Q h => ?_) fun A outer s H vs Q E hr hsp s1 I1 => ?_
  · obtain ⟨n, rfl, _⟩ := h
    rfl
  · obtain ⟨n, rfl, hn, hn2, q⟩ := hsp
    have hc : Calm (cxOf CX0 P w K mg base ["_law_n", "_law_due", "_law_row"] "_law_right" (defScope sRight) f cdv A outer s H E).nox := fun x y h => h
    have hr1 := hr.mono (j := 1) (by decide)
    have body : ∃ t, PSsL (cxOf CX0 P w K mg base ["_law_n", "_law_due", "_law_row"] "_law_right" (defScope sRight) f cdv A outer s H E).nox (defBody sRight) t ∧ t { nx := fun _ H' => Q .non H', rt := Q } (start ["_law_n", "_law_due", "_law_row"] [.int n]) H := by
      refine ⟨_, pssL_cons (PSL.of hc (ps_setLc (i := 1) (own := [("_law_row", 2)]) (g := gName 2) (tt := _) rfl scRight.nd rfl rfl (sw_true rfl rfl rfl (by decide +kernel)) (pi_list (pe_call GW hr1 (by rfl) R.gW R.W.kp R.bW .nil pass0 (pa_cons (pv 0) pa_nil)))
            (blkOk_by (own := [("_law_row", 2)]) (N := ["_law_n", "_law_due", "_law_row"]) (sc := defScope sRight) (by decide +kernel)) (fun _ _ _ _ _ => pg_name (i := 2) scRight.nd rfl (Or.inl rfl))
            (fun _ _ _ _ _ => pts_one (pt_cmp (pc_isN (pe_call GF hr1 (by rfl) R.gF R.F.kp R.bF .nil pass0 (pa_cons (pv 0) (pa_cons (pv 2) pa_nil)))))) (fun _ _ _ _ _ => pv 2)))
        (pssL_one (psL_ret (peL_eq hc (op_eqD hr1.units) (peL_call hc FL hr (by rfl) R.gL R.L.kp R.bL (pa_cons (pv 0) pa_nil)) (PEL.of hc (pv 1)) (nomark _)))), ?_⟩
      refine ⟨_, rfl, n, rfl, hn, hn2, fun H1 p qs s01 rq hq => ?_⟩
      refine ⟨p, rfl, ⟨_, .inl (.inl rq.1)⟩, fun L nL => ?_⟩
      have hlen : qs.length ≤ 4096 := by
        have h1 := congrArg List.length hq
        have h2 := List.length_filter_le (fun r : List Int => !r.isEmpty) (subs n n.toNat)
        rw [List.length_map] at h1
        rw [subs_len] at h2
        have h3 : 2 ^ n.toNat ≤ 2 ^ 12 := Nat.pow_le_pow_right (by decide) (by omega)
        have h4 : (2 : Nat) ^ 12 = 4096 := by decide
        omega
      have due := due_eq hn hn2 qs hq
      generalize hsq : (qs.mergeSort fun p q => decide (p.2 ≤ q.2)) = sq at rq due
      have hsl : sq.length = qs.length := by rw [← hsq, List.length_mergeSort]
      have hmem : ∀ z ∈ sq, up n (-1) z.2 ∧ z.2 ≠ [] := fun z hz => by
        rw [← hsq, List.mem_mergeSort] at hz
        have h1 : z.2 ∈ qs.map (·.2) := List.mem_map.mpr ⟨z, hz, rfl⟩
        rw [hq, List.mem_filter, subs_mem] at h1
        have e0 : n - 1 - ((n.toNat : Nat) : Int) = -1 := by omega
        rw [e0] at h1
        exact ⟨h1.1, fun e => by rw [e] at h1; simp at h1⟩
      have big : 4096 < sizeLine := by decide
      refine lc_list (K := K) (a := p) (xs := sq.map fun q => V.ref q.1) (fun j H3 => Same H1 H3 ∧ ∃ ds, RowsQ H3 L ds ∧ (∀ q ∈ ds, q.1 ≠ L) ∧ ds.length ≤ j ∧ ds.map (·.2) = ((sq.map (·.2)).take j).filter (goodB n)) ⟨same_upd nL, [], ⟨upd_same, fun q hq => by simp at hq⟩, fun q hq => by simp at hq, Nat.le_refl _, by simp⟩
        (fun j H3 _ pp => .inl (.inl (pp.1 _ _ rq.1))) (fun j x H3 hx pp => ?_) fun H3 pp => ?_
      · obtain ⟨s3, ds, rq', hne, hdl, hd⟩ := pp
        rw [List.getElem?_map] at hx
        obtain ⟨z, hz, rfl⟩ := Option.map_eq_some_iff.mp hx
        have hj : j < sq.length := (List.getElem?_eq_some_iff.mp hz).1
        have hzm := List.mem_of_getElem? hz
        have hsub : (sq.map (·.2))[j]? = some z.2 := by rw [List.getElem?_map, hz]; rfl
        have hzr := s3 _ _ (rq.2 z hzm)
        obtain ⟨hup, hnz⟩ := hmem z hzm
        have hul := up_len hup (by omega)
        refine ⟨rfl, _, rfl, _, rfl, n, z.1, z.2, rfl, hn, by omega, .inl (.inl hzr), List.length_pos_iff.mpr hnz, by omega, hup, fun H4 s4 hg => ?_, fun H4 p4 s4 hg => ?_⟩
        · have rq4 := rq'.same s4
          have hzL : z.1 ≠ L := ne_of_none (rq.2 z hzm) nL
          refine ⟨_, rfl, iteT ⟨_, rfl, _, rq4.1, by rw [List.length_map]; omega, fun b o eb => ?_, ds ++ [(z.1, z.2)], rq4.add (s4 _ _ hzr) hzL hne, fun q hm => ?_, by simp; omega, ?_⟩⟩
          · rw [upd_ne (ne_of_none eb nL)]
            exact s4 _ _ (s3 _ _ eb)
          · rcases List.mem_append.mp hm with y | y
            · exact hne q y
            · rw [List.mem_singleton.mp y]; exact hzL
          · rw [List.map_append, hd, List.take_add_one, hsub, List.filter_append]
            simp [hg]
        · refine ⟨_, rfl, iteF ⟨s3.trans s4, ds, rq'.same s4, hne, by omega, ?_⟩⟩
          rw [hd, List.take_add_one, hsub, List.filter_append]
          simp [hg]
      · obtain ⟨s3, ds, rq', hne, hdl, hd⟩ := pp
        rw [List.length_map] at hd
        rw [List.take_of_length_le (by rw [List.length_map]; exact Nat.le_refl _), due] at hd
        refine ⟨_, rfl, n, rfl, hn, hn2, fun H4 p4 s4 r4 => ?_⟩
        obtain ⟨es, e1, e2, e3⟩ := r4
        refine ⟨_, rfl, _, _, dp_list ⟨e1, e2⟩, dp_list (rq'.same s4), shaped_rows _, shaped_rows _, ?_⟩
        rw [e3, hd, eqv_shaped (shaped_rows _)]
        exact q H4 ((s01.trans s3).trans s4)
    obtain ⟨t, ht, hq⟩ := body
    exact ht.run [] s1 _ H _ I1 hq
end
end TF
/-! ## TfS -/
/-! _law_products_right -/
namespace TF
open PySem PySem.Spec PySem.W PyProof.Rows L2
theorem walk1 : walk 1 12 [] = [[0]] := by decide +kernel
theorem walk2 : walk 2 12 [] = [] := by decide +kernel
theorem walk3 : walk 3 12 [] = [[0, 1], [0, 2], [1, 2]] := by decide +kernel
theorem walk4 : walk 4 12 [] = [] := by decide +kernel
theorem walk9 : walk 9 12 [] = [[0, 1, 3, 4], [0, 1, 6, 7], [0, 2, 3, 5], [0, 2, 5, 6], [0, 2, 6, 8], [0, 3, 4, 7], [0, 3, 5, 8], [1, 2, 4, 5], [1, 2, 7, 8], [1, 3, 4, 6], [1, 3, 6, 7], [1, 4, 5, 8], [2, 3, 5, 6], [2, 4, 5, 7], [2, 4, 7, 8], [3, 4, 6, 7], [3, 5, 6, 8], [4, 5, 7, 8]] := by decide +kernel
def prodL (n : Int) (r : List Int) (f0 f1 : Int) : List Int := r.map (fun a => a + n * f0) ++ r.map fun a => a + n * f1
def prodB (n : Int) (rs fs ws : List (List Int)) : Bool := rs.all fun r => fs.all fun f => f.length == 2 && ws.any fun w => w.isPerm (prodL n r (f.getD 0 0) (f.getD 1 0))
theorem prod_ok {n : Int} (h1 : 0 < n) (h4 : n ≤ 4) : prodB n (walk n 12 []) (walk 3 12 []) (walk (3 * n) 12 []) = true := by
  have : n = 1 ∨ n = 2 ∨ n = 3 ∨ n = 4 := by omega
  rcases this with rfl | rfl | rfl | rfl
  · rw [show (3 : Int) * 1 = 3 from rfl, walk1, walk3]; decide +kernel
  · rw [walk2]; rfl
  · rw [show (3 : Int) * 3 = 9 from rfl, walk3, walk9]; decide +kernel
  · rw [walk4]; rfl
theorem prod_at {n : Int} (h1 : 0 < n) (h4 : n ≤ 4) {r f : List Int} (hr : r ∈ walk n 12 []) (hf : f ∈ walk 3 12 []) : ∃ f0 f1, f = [f0, f1] ∧ ∃ w ∈ walk (3 * n) 12 [], w.Perm (prodL n r f0 f1) := by
  have h := prod_ok h1 h4
  unfold prodB at h
  have h2 := List.all_eq_true.mp (List.all_eq_true.mp h r hr) f hf
  rw [Bool.and_eq_true] at h2
  obtain ⟨hl, ha⟩ := h2
  match f, hl, ha with
  | [f0, f1], _, ha =>
    obtain ⟨w, hw, hp⟩ := List.any_eq_true.mp ha
    exact ⟨f0, f1, rfl, w, hw, List.isPerm_iff.mp hp⟩
theorem up_pw {n : Int} : ∀ {b : Int} {ms : List Int}, up n b ms → ms.Pairwise (· ≤ ·)
  | b, [], _ => List.Pairwise.nil
  | b, x :: r, ⟨h1, h2, h3⟩ => List.Pairwise.cons (fun y hy => Int.le_of_lt (up_all h3 y hy).1) (up_pw h3)
section
variable {P : Program} {w : World} {K : PySem.W.Frag} {mg : Str → Option Value} {base : Heap}
variable {fW fF fL : Addr} {dW dF dL : FuncData}
def spProd : SpL := fun vs H Q => ∃ n : Int, vs = [.int n] ∧ 0 < n ∧ n ≤ 4 ∧ ∀ H', Same H H' → Q (.bl true) H'
abbrev prodN : List Str := ["_law_n", "_law_found", "_law_row", "_law_far", "_law_a"]
theorem fnL_prod {f : Addr} {fd : FuncData} (FR : Fun K "_law_products_right" "_law_products_right" sProducts f fd) (B : Bi mg) (R : TR K mg fW fF fL dW dF dL) (FL : FnL P w K mg base 48 fL dL ["_law_n"] spListed) : FnL P w K mg base 49 f fd ["_law_n"] spProd := by
  obtain ⟨oc, od, kV, doc, pm, an, cdv, ct, osl, e, lk, hcd⟩ := FR.ex
  subst e
  refine fnL_of (k := 48) lk hcd scProducts (fun vs H Q h => ?_) fun A outer s H vs Q E hr hsp s1 I1 => ?_
  · obtain ⟨n, rfl, _⟩ := h
    rfl
  · obtain ⟨n, rfl, hn, hn4, q⟩ := hsp
    have hc : Calm (cxOf CX0 P w K mg base prodN "_law_products_right" (defScope sProducts) f cdv A outer s H E).nox := fun x y h => h
    have hr2 := hr.mono (j := 2) (by decide)
    have hu65 : (A.deeper (envOfC "_law_products_right" (defScope sProducts) s.heap.objs.size f cdv)).units + 65 < cLine := by have := hr2.un; omega
    have body : ∃ t, PSsL (cxOf CX0 P w K mg base prodN "_law_products_right" (defScope sProducts) f cdv A outer s H E).nox (defBody sProducts) t ∧ t { nx := fun _ H' => Q .non H', rt := Q } (start prodN [.int n]) H := by
      refine ⟨_, pssL_cons (psL_set (i := 1) scProducts.nd rfl (.inl rfl) (peL_call hc FL hr (by rfl) R.gL R.L.kp R.bL (pa_cons (pe_op op_mul pe_int (pv 0)) pa_nil)))
        (pssL_cons (psL_for hc rfl (piL_list (peL_call hc FL hr (by rfl) R.gL R.L.kp R.bL (pa_cons (pv 0) pa_nil))) (pg_name (i := 2) scProducts.nd rfl (Or.inl rfl))
          (pssL_one (psL_for hc rfl (piL_list (peL_call hc FL hr (by rfl) R.gL R.L.kp R.bL (pa_cons pe_int pa_nil))) (pg_name (i := 3) scProducts.nd rfl (Or.inr rfl))
            (PSsL.of hc (pss_one (ps_if (pt_cmpR (op_notInD hu65) (pe_callB cr_sorted (by rfl) B.sorted (by decide +kernel) (pa_cons (pe_op op_cat
                (pe_lc (own := [("_law_a", 4)]) (g := gName 4) (tt := tYes) rfl scProducts.nd (pi_list (pv 2)) (blkOk_by (own := [("_law_a", 4)]) (N := prodN) (sc := defScope sProducts) (by decide +kernel)) (fun _ _ _ _ _ => pg_name (i := 4) scProducts.nd rfl (Or.inl rfl)) (fun _ _ _ _ _ => pts_nil)
                  (fun _ _ _ _ _ => pe_op op_add (pv 4) (pe_op op_mul (pv 0) (pe_ix (r := rIxL K) ix_list (pv 3) pe_int (fun _ _ => rfl)))))
                (pe_lc (own := [("_law_a", 4)]) (g := gName 4) (tt := tYes) rfl scProducts.nd (pi_list (pv 2)) (blkOk_by (own := [("_law_a", 4)]) (N := prodN) (sc := defScope sProducts) (by decide +kernel)) (fun _ _ _ _ _ => pg_name (i := 4) scProducts.nd rfl (Or.inl rfl)) (fun _ _ _ _ _ => pts_nil)
                  (fun _ _ _ _ _ => pe_op op_add (pv 4) (pe_op op_mul (pv 0) (pe_ix (r := rIxL K) ix_list (pv 3) pe_int (fun _ _ => rfl)))))) pa_nil)) (pv 1) (by rfl)) (pss_one (ps_ret pe_bl)) pss_nil))))))
        (pssL_one (PSL.of hc (ps_ret pe_bl)))), ?_⟩
      refine ⟨_, rfl, _, _, rfl, rfl, .inl ⟨by decide, by decide⟩, 3 * n, rfl, by omega, by omega, fun H1 p1 s01 r1 => ?_⟩
      refine ⟨_, rfl, n, rfl, hn, by omega, fun H2 p2 s12 r2 => ?_⟩
      obtain ⟨qs, q1, q2, q3⟩ := r2
      refine ⟨p2, rfl, ⟨_, .inl (.inl q1)⟩, for_list (xs := qs.map fun q => V.ref q.1) (fun i σ H3 => ∃ y2 y3 y4, σ = [some (.int n), some (.ref p1), y2, y3, y4] ∧ Same H2 H3) ⟨_, _, _, rfl, Same.refl _⟩ (fun i σ H3 _ pp => ?_) (fun i x σ H3 hx pp => ?_) fun σ H3 pp => ?_⟩
      · obtain ⟨_, _, _, _, s3⟩ := pp
        exact .inl (.inl (s3 _ _ q1))
      · obtain ⟨y2, y3, y4, rfl, s3⟩ := pp
        rw [List.getElem?_map] at hx
        obtain ⟨z, hz, rfl⟩ := Option.map_eq_some_iff.mp hx
        have hzm := List.mem_of_getElem? hz
        have hzw : z.2 ∈ walk n 12 [] := by rw [← q3]; exact List.mem_map.mpr ⟨z, hzm, rfl⟩
        obtain ⟨zup, zne, _⟩ := walk_mem 12 [] z.2 trivial hzw
        have zlen := up_len zup (by omega)
        refine ⟨3, rfl, by decide, by decide, fun H4 p4 s34 r4 => ?_⟩
        obtain ⟨fs, f1', f2', f3'⟩ := r4
        refine ⟨p4, rfl, ⟨_, .inl (.inl f1')⟩, for_list (xs := fs.map fun q => V.ref q.1) (fun j σ H5 => ∃ y3 y4, σ = [some (.int n), some (.ref p1), some (.ref z.1), y3, y4] ∧ Same H4 H5) ⟨_, _, rfl, Same.refl _⟩ (fun j σ H5 _ pp => ?_) (fun j x σ H5 hx pp => ?_) fun σ H5 pp => ?_⟩
        · obtain ⟨_, _, _, s5⟩ := pp
          exact .inl (.inl (s5 _ _ f1'))
        · obtain ⟨y3, y4, rfl, s5⟩ := pp
          rw [List.getElem?_map] at hx
          obtain ⟨y, hy, rfl⟩ := Option.map_eq_some_iff.mp hx
          have hym := List.mem_of_getElem? hy
          have hyw : y.2 ∈ walk 3 12 [] := by rw [← f3']; exact List.mem_map.mpr ⟨y, hym, rfl⟩
          obtain ⟨f0, f1, ef, w0, hw, hperm⟩ := prod_at hn hn4 hzw hyw
          have hz5 := s5 _ _ (s34 _ _ (s3 _ _ (q2 z hzm)))
          have hy5 := s5 _ _ (f2' y hym)
          rw [ef] at hy5
          have s25 : Same H1 H5 := ((s12.trans s3).trans s34).trans s5
          · skip
            refine ⟨_, rfl, z.1, rfl, ⟨_, .inl (.inl hz5)⟩, fun L1 nL1 => ?_⟩
            refine lc_list (K := K) (a := z.1) (xs := z.2.map V.int) (fun m Hy => Same H5 Hy ∧ Hy L1 = some (.lst (((z.2.take m).map fun a => a + n * f0).map V.int))) ⟨same_upd nL1, by rw [upd_same]; rfl⟩ (fun m Hy _ pp => .inl (.inl (pp.1 _ _ hz5))) (fun m x Hy hx pp => ?_) fun H6 pp => ?_
            · obtain ⟨sy, ey⟩ := pp
              rw [List.getElem?_map] at hx
              obtain ⟨b, hb, rfl⟩ := Option.map_eq_some_iff.mp hx
              have hm : m < z.2.length := (List.getElem?_eq_some_iff.mp hb).1
              refine ⟨rfl, ?_⟩
              unfold tYes
              dsimp only
              rw [if_pos rfl]
              refine ⟨_, rfl, _, rfl, _, rfl, y.1, _, 0, _, rfl, rfl, .inl (.inl (sy _ _ hy5)), atI_nat (xs := [f0, f1].map V.int) (j := 0) (v := V.int f0) rfl, _, _, rfl, rfl, .inl ⟨by omega, by omega⟩, _, _, rfl, rfl, ?_⟩
              refine ⟨_, ey, by rw [List.length_map, List.length_map, List.length_take]; exact small1000 (by omega), fun b2 o eb => ?_, ?_⟩
              · rw [upd_ne (ne_of_none eb nL1)]
                exact sy _ _ eb
              · rw [upd_same, List.take_add_one, hb, List.map_append, List.map_append]; rfl
            obtain ⟨sL1, eL1⟩ := pp
            rw [List.length_map, List.take_length] at eL1
            have hz6 := sL1 _ _ hz5
            have hy6 := sL1 _ _ hy5
            refine ⟨_, rfl, z.1, rfl, ⟨_, .inl (.inl hz6)⟩, fun L2 nL2 => ?_⟩
            refine lc_list (K := K) (a := z.1) (xs := z.2.map V.int) (fun m Hy => Same H6 Hy ∧ Hy L2 = some (.lst (((z.2.take m).map fun a => a + n * f1).map V.int))) ⟨same_upd nL2, by rw [upd_same]; rfl⟩ (fun m Hy _ pp => .inl (.inl (pp.1 _ _ hz6))) (fun m x Hy hx pp => ?_) fun H7 pp => ?_
            · obtain ⟨sy, ey⟩ := pp
              rw [List.getElem?_map] at hx
              obtain ⟨b, hb, rfl⟩ := Option.map_eq_some_iff.mp hx
              have hm : m < z.2.length := (List.getElem?_eq_some_iff.mp hb).1
              refine ⟨rfl, ?_⟩
              unfold tYes
              dsimp only
              rw [if_pos rfl]
              refine ⟨_, rfl, _, rfl, _, rfl, y.1, _, 1, _, rfl, rfl, .inl (.inl (sy _ _ hy6)), atI_nat (xs := [f0, f1].map V.int) (j := 1) (v := V.int f1) rfl, _, _, rfl, rfl, .inl ⟨by omega, by omega⟩, _, _, rfl, rfl, ?_⟩
              refine ⟨_, ey, by rw [List.length_map, List.length_map, List.length_take]; exact small1000 (by omega), fun b2 o eb => ?_, ?_⟩
              · rw [upd_ne (ne_of_none eb nL2)]
                exact sy _ _ eb
              · rw [upd_same, List.take_add_one, hb, List.map_append, List.map_append]; rfl
            obtain ⟨sL2, eL2⟩ := pp
            rw [List.length_map, List.take_length] at eL2
            have eL1' := sL2 _ _ eL1
            refine ⟨L1, L2, _, _, rfl, rfl, eL1', eL2, by rw [List.length_map, List.length_map, List.length_map, List.length_map]; exact Nat.le_of_lt (small1000 (by omega)), fun p7 n7 => ?_⟩
            have s78 := same_upd (o := HO.lst (((z.2.map fun a => a + n * f0).map V.int) ++ ((z.2.map fun a => a + n * f1).map V.int))) n7
            refine ⟨p7, prodL n z.2 f0 f1, rfl, .inl (.inl (by rw [upd_same]; unfold prodL; rw [List.map_append])), by unfold prodL; rw [List.length_append, List.length_map, List.length_map]; omega, fun ns' p8 perm pw n8 => ?_⟩
            have s89 := same_upd (o := HO.lst (ns'.map V.int)) n8
            have s19 := (((s25.trans sL1).trans sL2).trans s78).trans s89
            obtain ⟨es, e1, e2, e3⟩ := r1.same s19
            have ens : ns' = w0 := by
              refine List.Perm.eq_of_pairwise (le := (· ≤ ·)) (fun a b _ _ h1 h2 => Int.le_antisymm h1 h2) pw (up_pw (walk_mem 12 [] w0 trivial hw).1) (perm.trans hperm.symm)
            refine ⟨_, rfl, rowD ns', _, .lst (.inl (.inl upd_same)) (dp_ints ns'), dp_list ⟨e1, e2⟩, shaped_lst ns', shaped_rows _, _, rfl, iteN ?_ ?_⟩
            · rw [List.any_eq_true]
              refine ⟨rowD ns', ?_, eqv_shaped (shaped_lst ns')⟩
              rw [e3, ens]
              exact List.mem_map.mpr ⟨w0, hw, rfl⟩
            · exact ⟨_, _, rfl, (((s5.trans sL1).trans sL2).trans s78).trans s89⟩
        · obtain ⟨y3, y4, rfl, s5⟩ := pp
          exact ⟨_, _, _, rfl, (s3.trans s34).trans s5⟩
      · obtain ⟨y2, y3, y4, rfl, s3⟩ := pp
        exact q H3 ((s01.trans s12).trans s3)
    obtain ⟨t, ht, hq⟩ := body
    exact ht.run [] s1 _ H _ I1 hq
end
end TF
/-! ## TfT -/
/-! law -/
namespace TF
open PySem PySem.Spec PySem.W PyProof.Rows L2
theorem MAt.same {K : PySem.W.Frag} {H H' : Hp} {m a l : Addr} {ns : List Int} {k : Int} (h : MAt K H m a l ns k) (s : Same H H') : MAt K H' m a l ns k := by
  obtain ⟨⟨kvs, ls, e1, e2, e3, e4, e5, e6, e7, e8⟩, sc, n1, n2⟩ := h
  exact ⟨⟨kvs, ls, s _ _ e1, e2, e3, e4, e5, s _ _ e6, e7, e8⟩, Same.seq s sc, n1, n2⟩
theorem MAt.keep {K : PySem.W.Frag} {H H' : Hp} {m a l : Addr} {ns : List Int} {k : Int} (h : MAt K H m a l ns k) {k' : Int} (h' : MAt K H' m a l ns k') : TupKeep H H' → True := fun _ => trivial
section
variable {P : Program} {w : World} {K : PySem.W.Frag} {mg : Str → Option Value} {base : Heap}
variable {fB fS fV fU fH fIC fI fG fN fO fE fM fR fT C pM pR fW fF fL fA fD fX fY : Addr} {dB dS dV dU dH dIC dI dG dN dO dE dM dR dT dW dF dL dA dD dX dY : FuncData}
structure TL (K : PySem.W.Frag) (mg : Str → Option Value) (fA fD fX fY : Addr) (dA dD dX dY : FuncData) : Prop where
  A : Fun K "_law_begun" "_law_begun" sBegun fA dA
  bA : Binds K dA ["_law_script"] []
  gA : mg "_law_begun" = some (.ref fA)
  D : Fun K "_law_draw" "_law_draw" sDraw fD dD
  bD : Binds K dD ["_law_m", "_law_top"] []
  gD : mg "_law_draw" = some (.ref fD)
  X : Fun K "_law_right" "_law_right" sRight fX dX
  bX : Binds K dX ["_law_n"] []
  gX : mg "_law_right" = some (.ref fX)
  Y : Fun K "_law_products_right" "_law_products_right" sProducts fY dY
  bY : Binds K dY ["_law_n"] []
  gY : mg "_law_products_right" = some (.ref fY)
abbrev lawN : List Str := ["_law_script", "_law_m", "_law_turn", "_law_n", "_law_box", "_law_far"]
theorem law_body (B : Bi mg) (TC' : TC K mg C) (D0 : TP K mg fB fS fV fU fH dB dS dV dU dH) (T : TQ K mg C fIC fI fG dIC dI dG) (O : TO K mg fN fO dN dO) (Y : TE' K C fE fM fR pM pR dE dM dR) (R : TR K mg fW fF fL dW dF dL) (L : TL K mg fA fD fX fY dA dD dX dY)
    (f : Addr) (cdv : Value) (A : Around) (outer : List Env) (s : Shared) (H : Hp) (E : XK) (hr : Room 49 (A.deeper (envOfC "law" (defScope sLaw) s.heap.objs.size f cdv))) :
    ∃ t, PXsL False (cxOf CX0 P w K mg base lawN "law" (defScope sLaw) f cdv A outer s H E).nox (defBody sLaw) t ∧
      ∀ (a : Addr) (ns : List Int) (H : Hp), SqL K H a (ns.map V.int) → ns.length ≤ 63 → (∀ l, H l = none → a ≠ l) → t { nx := fun _ _ => False, rt := fun v _ => v = .bl true } (start lawN [.ref a]) H := by
  have FL : FnL P w K mg base 48 fL dL ["_law_n"] spListed := fnL_listed R.L B TC' D0 T O Y
  have FX : FnL P w K mg base 49 fX dX ["_law_n"] spRight := fnL_right L.X B R FL
  have FY : FnL P w K mg base 49 fY dY ["_law_n"] spProd := fnL_prod L.Y B R FL
  have FO : FnG P w K mg base 46 fO dO ["modulus"] (spCellsOf K C) := fnG_cellsOf B TC' D0 T O
  have GA : FnOk P w K mg base CX0 1 fA dA ["_law_script"] (spBegun K) := ok_begun L.A
  have GD : FnOk P w K mg base CX0 1 fD dD ["_law_m", "_law_top"] (spDraw K) := ok_draw L.D B
  have GE : FnOk P w K mg base CX0 1 fE dE ["self", "other"] (spCEq K C) := ok_ceq Y.E B TC'
  have hc : Calm (cxOf CX0 P w K mg base lawN "law" (defScope sLaw) f cdv A outer s H E).nox := fun x y h => h
  have hr1 := hr.mono (j := 1) (by decide)
  have hr46 := hr.mono (j := 46) (by decide)
  have hr47 := hr.mono (j := 47) (by decide)
  have hr48 := hr.mono (j := 48) (by decide)
  refine ⟨_, pxs_cons (.ofP (PSL.of hc (ps_set (i := 1) scLaw.nd rfl (Or.inl rfl) (pe_call GA hr1 (by rfl) L.gA L.A.kp L.bA .nil pass0 (pa_cons (pv 0) pa_nil)))))
    (pxs_cons (.ofP (psL_for hc rfl (piL_of hc (pi_range1 (by rfl) B.range (pa_cons (pe_op op_add pe_int (pe_callB (call_min2 rfl) (by rfl) B.min (by decide +kernel) (pa_cons pe_int (pa_cons (pe_callB call_len_seq (by rfl) B.len PySem.boot_len (pa_cons (pv 0) pa_nil)) pa_nil)))) pa_nil))) (pg_name (i := 2) scLaw.nd rfl (Or.inl rfl))
        (pssL_cons (PSL.of hc (ps_set (i := 3) scLaw.nd rfl (Or.inl rfl) (pe_op op_add pe_int (pe_call GD hr1 (by rfl) L.gD L.D.kp L.bD .nil pass0 (pa_cons (pv 1) (pa_cons pe_int pa_nil))))))
          (pssL_one (psL_if (ptL_not (ptL_val (peL_call hc FX hr (by rfl) L.gX L.X.kp L.bX (pa_cons (pv 3) pa_nil)))) (PSsL.of hc (pss_one (ps_ret pe_bl))) (PSsL.of hc pss_nil))))))
    (pxs_cons (pxl_forG hc hr47 (pgl_call hc FO hr46 (by rfl) O.gO O.O.kp O.bO (pa_cons pe_int pa_nil)) (pg_name (i := 4) scLaw.nd rfl (Or.inl rfl))
        (pxs_one (pxl_forG hc hr47 (pgl_call hc FO hr46 (by rfl) O.gO O.O.kp O.bO (pa_cons pe_int pa_nil)) (pg_name (i := 5) scLaw.nd rfl (Or.inl rfl))
          (.ofP (PSsL.of hc (pss_one (ps_if (pt_cmpR (op_eqOwn GE hr1 Y.eqAt Y.eqFn Y.bE) (pv 5) (pv 4) (nomark _)) (pss_one ps_break) pss_nil)))))))
    (pxs_cons (.ofP (psL_if (ptL_not (ptL_val (peL_call hc FX hr (by rfl) L.gX L.X.kp L.bX (pa_cons (pe_op op_add pe_int (pe_call GD hr1 (by rfl) L.gD L.D.kp L.bD .nil pass0 (pa_cons (pv 1) (pa_cons pe_int pa_nil)))) pa_nil)))) (PSsL.of hc (pss_one (ps_ret pe_bl))) (PSsL.of hc pss_nil)))
    (pxs_one (.ofP (psL_ret (peL_and (peL_call hc FY hr (by rfl) L.gY L.Y.kp L.bY (pa_cons (pe_op op_add pe_int (pe_call GD hr1 (by rfl) L.gD L.D.kp L.bD .nil pass0 (pa_cons (pv 1) (pa_cons pe_int pa_nil)))) pa_nil))
      (peL_one (peL_eq hc (op_eqD hr1.units) (peL_call hc FL hr48 (by rfl) R.gL R.L.kp R.bL (pa_cons pe_int pa_nil))
        (PEL.of hc (pe_lst (pa_cons (pe_lst (pa_cons pe_int (pa_cons pe_int pa_nil))) (pa_cons (pe_lst (pa_cons pe_int (pa_cons pe_int pa_nil))) (pa_cons (pe_lst (pa_cons pe_int (pa_cons pe_int pa_nil))) pa_nil))))) (nomark _)))))))))), ?_⟩
  intro a ns H hS hl hal
  refine ⟨_, rfl, a, ns, rfl, hS, hl, hal, fun H1 m l s1 nm nl M0 => ?_⟩
  refine ⟨_, rfl, a, _, rfl, .inl M0.sc, 3, _, rfl, 1, _, rfl, rfl, _, rfl, (by show -(2 ^ 62) ≤ (1 : Int) + _; split <;> omega), (by show (1 : Int) + _ < 2 ^ 62; split <;> omega), ?_⟩
  obtain ⟨cnt, hcnt, hcl⟩ : ∃ cnt : Nat, cnt = ((1 : Int) + (if (((ns.map V.int).length : Nat) : Int) < 3 then (((ns.map V.int).length : Nat) : Int) else 3)).toNat ∧ cnt ≤ 4 := ⟨_, rfl, by split <;> omega⟩
  rw [← hcnt]
  refine for_range (lo := 0) (n := cnt) (fun i σ H2 => ∃ y2 y3 y4 y5 k, σ = [some (.ref a), some (.ref m), y2, y3, y4, y5] ∧ MAt K H2 m a l ns k ∧ 0 ≤ k ∧ k ≤ i) ⟨_, _, _, _, 0, rfl, M0, by decide, by decide⟩ (fun i σ H2 hi pp => ?_) fun σ H2 pp => ?_
  · obtain ⟨y2, y3, y4, y5, k, rfl, M, k0, k1⟩ := pp
    refine ⟨_, rfl, m, a, l, ns, k, 9, rfl, by decide, by decide, M, k0, by omega, hl, fun H3 v v0 v1 fr M3 => ⟨_, _, rfl, rfl, ?_⟩⟩
    refine ⟨_, rfl, 1 + v, rfl, by omega, by omega, fun H4 s4 => ⟨_, rfl, iteN rfl ?_⟩⟩
    exact ⟨_, _, _, _, k + 1, rfl, M3.same s4, by omega, by omega⟩
  · obtain ⟨y2, y3, y4, y5, k, rfl, M, k0, k1⟩ := pp
    refine ⟨_, ⟨3, rfl, by decide, by decide, rfl⟩, fun i σ H2 => ∃ y4 y5, σ = [some (.ref a), some (.ref m), y2, y3, y4, y5] ∧ MAt K H2 m a l ns k, ⟨_, _, rfl, M⟩, ?_, ?_⟩
    · rintro σ H3 H4 ⟨y4, y5, rfl, M3⟩ s4
      have M4 := M3.same s4
      refine ⟨_, rfl, m, a, l, ns, k, 3, rfl, by decide, by decide, M4, k0, by omega, hl, fun H5 v v0 v1 fr M5 => ⟨_, _, rfl, rfl, ?_⟩⟩
      refine ⟨10 + v, rfl, by omega, by omega, fun H6 s6 => ⟨_, rfl, iteN rfl ?_⟩⟩
      have M6 := M5.same s6
      refine ⟨_, rfl, m, a, l, ns, k + 1, 4, rfl, by decide, by decide, M6, by omega, by omega, hl, fun H7 v2 w0 w1 fr2 M7 => ⟨_, _, rfl, rfl, ?_⟩⟩
      refine ⟨1 + v2, rfl, by omega, by omega, fun H8 s8 => ⟨_, rfl, iteT ?_⟩⟩
      refine ⟨3, rfl, by decide, by decide, fun H9 p9 s9 r9 => ?_⟩
      obtain ⟨qs, q1, q2, q3⟩ := r9
      rw [walk3] at q3
      refine ⟨by show 2 ≤ sizeLine; decide, fun p1 n1 => ⟨by show 2 ≤ sizeLine; decide, fun p2 n2 => ⟨by show 2 ≤ sizeLine; decide, fun p3 n3 => ⟨by show 3 ≤ sizeLine; decide, fun p4 n4 => ?_⟩⟩⟩⟩
      have t1 := same_upd (o := HO.lst [V.int 0, V.int 1]) n1
      have t2 := same_upd (o := HO.lst [V.int 0, V.int 2]) n2
      have t3 := same_upd (o := HO.lst [V.int 1, V.int 2]) n3
      have t4 := same_upd (o := HO.lst [V.ref p1, V.ref p2, V.ref p3]) n4
      have rq : RowsQ (upd (upd (upd (upd H9 p1 (.lst [.int 0, .int 1])) p2 (.lst [.int 0, .int 2])) p3 (.lst [.int 1, .int 2])) p4 (.lst [.ref p1, .ref p2, .ref p3])) p4 [(p1, [0, 1]), (p2, [0, 2]), (p3, [1, 2])] := by
        refine ⟨upd_same, fun q hq => ?_⟩
        rcases List.mem_cons.mp hq with e | hq
        · rw [e]; exact t4 _ _ (t3 _ _ (t2 _ _ upd_same))
        · rcases List.mem_cons.mp hq with e | hq
          · rw [e]; exact t4 _ _ (t3 _ _ upd_same)
          · rw [List.mem_singleton.mp hq]; exact t4 _ _ upd_same
      have s5 := ((t1.trans t2).trans t3).trans t4
      refine ⟨_, _, dp_list ⟨s5 _ _ q1, fun q hq => s5 _ _ (q2 q hq)⟩, dp_list rq, shaped_rows _, shaped_rows _, ?_⟩
      rw [q3]
      show V.bl _ = V.bl true
      rw [show ([(p1, [0, 1]), (p2, [0, 2]), (p3, [1, 2])] : List (Addr × List Int)).map (·.2) = [[0, 1], [0, 2], [1, 2]] from rfl, eqv_shaped (shaped_rows _)]
    · rintro i φ σ H3 x H4 ⟨y4, y5, rfl, M3⟩ hφ s4 hx
      rw [List.getElem?_map] at hφ
      obtain ⟨r, hr', rfl⟩ := Option.map_eq_some_iff.mp hφ
      obtain ⟨b, rfl, hb⟩ := hx
      have M4 := M3.same s4
      refine ⟨_, ⟨3, rfl, by decide, by decide, rfl⟩, fun j σ H5 => ∃ y5, σ = [some (.ref a), some (.ref m), y2, y3, some (.ref b), y5] ∧ MAt K H5 m a l ns k ∧ CellAt K C H5 b 3 r ∧ TupKeep H4 H5, ⟨_, rfl, M4, hb, TupKeep.refl _⟩, ?_, ?_⟩
      · rintro σ H5 H6 ⟨y5, rfl, M5, c5, tk⟩ s6
        exact ⟨⟨_, _, rfl, M5.same s6⟩, tk.trans (TupKeep.of_same s6)⟩
      · rintro j φ σ H5 x H6 ⟨y5, rfl, M5, c5, tk⟩ hφ s6 hx
        rw [List.getElem?_map] at hφ
        obtain ⟨r2, hr2', rfl⟩ := Option.map_eq_some_iff.mp hφ
        obtain ⟨c, rfl, dx, td, t, kd, e, ht⟩ := hx
        obtain ⟨dy, te, u, ke, e2, hu⟩ := c5.same s6
        have tk6 := tk.trans (TupKeep.of_same s6)
        refine ⟨_, rfl, _, rfl, c, b, dx, dy, _, _, rfl, rfl, e, e2, c, b, dx, dy, 3, 3, t, u, r2, r, _, _, rfl, e, e2, ⟨rfl, rfl⟩, ⟨rfl, rfl⟩, ht, hu, _, rfl, _, rfl, ite2 (fun _ => ?_) fun _ => ?_⟩
        · exact ⟨id, ⟨_, _, rfl, M5.same s6⟩, tk6⟩
        · exact ⟨⟨_, rfl, M5.same s6, ⟨dy, te, u, ke, e2, hu⟩, tk6⟩, TupKeep.refl _⟩
end
end TF
/-! ## TfU -/
/-! the end: law's call, the caller's thread, the row -/
namespace TF
open PySem PySem.Spec PySem.W PySem.Calls PyProof.Rows L2
/-! ### what may be left behind: bare, or asleep over a generator's object -/
def Fine (y : Shared) : Prop :=
  ∀ (i : Nat) (x : GenState), y.gens[i]? = some x → x.bare = true ∨ ∃ k l a more kw p fs o n, x = .suspended k l (.builtin "proto.yield_from" ⟨.ref a :: more, kw⟩) p fs true ∧ fs.any Frame.guarded = false ∧ y.heap.get? a = some o ∧ o.genNumber? = some n
theorem fine_left {y z : Shared} (F : Fine y) (hf : z.forget = y.forget) (hr : z.heap.life.registered = []) (all : Bool) : leftWithCleanup (forgetSuspended all z).gens = false := by
  obtain ⟨eh, _, _, _, eg⟩ := Shared.forget_eq hf
  refine leftWithCleanup_false_of_bare fun x hx => ?_
  unfold forgetSuspended at hx
  obtain ⟨g, hg, e⟩ := Array.mem_map.mp hx
  obtain ⟨i, hi, hgi⟩ := Array.mem_iff_getElem.mp hg
  have h1 : z.gens[i]? = some g := by rw [Array.getElem?_eq_getElem hi, hgi]
  have h2 : (y.gens.map GenState.forget)[i]? = some g.forget := by rw [← eg, Array.getElem?_map, h1]; rfl
  rw [Array.getElem?_map] at h2
  obtain ⟨x0, h3, h4⟩ := Option.map_eq_some_iff.mp h2
  cases g with
  | fresh c => subst e; rfl
  | running => subst e; rfl
  | finished => subst e; rfl
  | suspended k l c p fs cl =>
    cases cl with
    | false => subst e; rfl
    | true =>
      have hc : closingShows z fs c true = false := by
        cases x0 with
        | fresh c => cases h4
        | running => cases h4
        | finished => cases h4
        | suspended k0 l0 c0 p0 fs0 cl0 =>
          simp only [GenState.forget, GenState.suspended.injEq] at h4
          obtain ⟨rfl, rfl, rfl, rfl, h5, rfl⟩ := h4
          rcases F i _ h3 with q | ⟨k', l', a, more, kw, p', fs', o, n, q, hg', ho, hn⟩
          · cases q
          · simp only [GenState.suspended.injEq] at q
            obtain ⟨rfl, rfl, rfl, rfl, rfl, _⟩ := q
            refine closing_deleg ⟨(forget_guarded h5).symm.trans hg', a, more, kw, o, n, rfl, by rw [eh]; exact ho, hn⟩ hr
      subst e
      simp [hc, GenState.bare]
/-! ### the caller's thread -/
theorem fits_caller : (⟨.builtin "claim.caller" {}, none, none, [], none⟩ : PySem.Ctx).Fits [] := ⟨rfl, rfl, rfl, rfl⟩
theorem way_caller {P : Program} {w : World} {t : Sem PySem.Fin} {s : Shared} {R : Result → Shared → Prop} (h : WL (model P w) callerA t (fun fin y => ∃ f, fin = .done f ∧ R (.ok f) y) (fun x y => R (.error x) y) s) :
    ∃ r z, Way (model P w) [] s t (.builtin "claim.caller" {}) default [] z (.ret r) ∧ R r z := by
  have h1 := h ⟨.builtin "claim.caller" {}, none, none, [], none⟩ default ⟨[], fits_caller⟩ caller_in
  have g : Gets (model P w) ⟨.builtin "claim.caller" {}, none, none, [], none⟩ default (t.wrap Sem.pure Sem.raise id id) [] s fun e z => ∃ r, e = .ret r ∧ R r z := by
    refine gets_wrap Sem.pure Sem.raise id id t (by rw [over_nil]; exact h1) (fun fin q y i => ?_) fun x q y i => ?_
    · obtain ⟨f, rfl, i⟩ := i
      exact ⟨.ret (.ok f), y, fun _ _ => .out ⟨rfl, rfl⟩, .ok f, rfl, i⟩
    · exact ⟨.ret (.error x), y, fun _ _ => .out ⟨rfl, rfl⟩, .error x, rfl, i⟩
  rw [wrap_id] at g
  obtain ⟨e, z, wy, r, rfl, q⟩ := g
  exact ⟨r, z, wy [] fits_caller, q⟩
theorem thread_endsL {P : Program} {w : World} {t : Sem PySem.Fin} {s : Shared} {R : Result → Shared → Prop} (hz : s.asleep) (h : WL (model P w) callerA t (fun fin y => ∃ f, fin = .done f ∧ (R (.ok f) y ∧ Fine y)) (fun x y => R (.error x) y ∧ Fine y) s) :
    ∃ n r z0 z, schedN (denote table) P w n (.single s ⟨t, .builtin "claim.caller" {}, default, []⟩) = .halted (outcomeOf r) (forgetSuspended (w.params.lifetimes == .anyTime) z0) ∧ z0.forget = z.forget ∧ z0.heap.life = s.heap.life ∧ R r z := by
  obtain ⟨r, z, wy, q, F⟩ := way_caller (R := fun r y => R r y ∧ Fine y) h
  obtain ⟨n, z0, hs, h1, h2⟩ := sched_way w wy r rfl s [] rfl rfl hz fun z0 a b => fine_left F a (by rw [b]; exact hz.1) _
  exact ⟨n, r, z0, z, hs, h1, h2, q⟩
theorem callFromL {c : ClaimW} {tree : List Value → Sem PySem.Fin} {w : World} {s : Shared} {free : Addr → Prop} {gens : Prop} {kept : Heap → Prop} (hz : s.asleep) (hg0 : s.gens = #[])
    (spec : ∀ args, c.pre args = true → WData.layableAll args = true → ∀ ord : List DictEntry → List DictEntry, (∀ l, (ord l).Perm l) →
      ∃ vs s1, layAllW c.records (classAt s.heap) w.params ord args s = some (vs, s1) ∧
        WL (model c.prog w) callerA (tree vs) (fun fin y => ∃ f, fin = .done f ∧ ((c.Ends s args vs s1 (.ok f) y ∧ y.os = s.os ∧ kept y.heap) ∧ Fine y)) (fun e y => (c.Ends s args vs s1 (.error e) y ∧ y.os = s.os ∧ kept y.heap) ∧ Fine y) s1) :
    c.CallFrom (fun vs => ⟨tree vs, .builtin "claim.caller" {}, default, []⟩) w free gens kept s := by
  intro args hp hl ord ho
  obtain ⟨vs, s1, laid, code⟩ := spec args hp hl ord ho
  have rest := layAllW_rest _ _ _ laid
  obtain ⟨n, r, z0, z, hs, hf, life, ends, eos, hk⟩ := thread_endsL (R := fun r y => c.Ends s args vs s1 r y ∧ y.os = s.os ∧ kept y.heap) (Shared.asleep_of_life rest.2.2.2 hz) code
  obtain ⟨eh, _, _, eo, _⟩ := Shared.forget_eq hf
  have hh : (forgetSuspended (w.params.lifetimes == .anyTime) z0).heap = z.heap := eh
  have ends' := ends.congr hh
  have hk' : kept (forgetSuspended (w.params.lifetimes == .anyTime) z0).heap := by rw [hh]; exact hk
  have eo' : (forgetSuspended (w.params.lifetimes == .anyTime) z0).os = s.os := (show z0.os = s.os from eo.trans eos)
  have el : (forgetSuspended (w.params.lifetimes == .anyTime) z0).heap.life = s.heap.life := life.trans rest.2.2.2
  refine ⟨vs, s1, laid, n, _, _, hs, ?_, (fun _ i x hx => by rw [hg0] at hx; simp at hx), hk', by rw [el], Shared.rest_eq eo'⟩
  rcases ends' with ⟨v, rfl, d1, d2, d3, d4, d5⟩ | ⟨e, ob, cls, rfl, d1, d2, d3, d4, d5⟩
  · exact .inl ⟨v, rfl, d1, d2, d3, fun b o y _ => d4 b o y, d5⟩
  · exact .inr ⟨e, ob, cls, rfl, d1, d2, d3, d4, fun b o y _ => d5 b o y⟩
end TF
/-! ## TfV -/
/-! the row's head for a call that may leave such sleepers behind -/
namespace TF
open PySem PySem.Spec PySem.W PySem.Calls PyProof.Rows L2
/-- what the walk of the row's def has to give -/
abbrev WalkL (q : Program) (loose : List Str) (XP : (Str → Option Value) → Heap → Prop) (YP : World → Heap → Prop) (r : RowW) (d : DefRec) (kwd : List (Str × Expr)) : Prop :=
  ∀ (w : World) (s0 s1 : Shared) (mg mb : Str → Option Value), Ground q loose r.records XP w s0 mg mb s1.heap → YP w s0.heap → YP w s1.heap →
    ∀ (a : Addr) (o : Obj) (pm cd doc dV kV : Value), s1.heap.get? a = some o → o.data = .func { docDef d.name d.params d.body d.scope pm cd doc with defaults := dV, kwdefaults := kV } → s1.heap.CodeRec cd d.name → Dflts mg s1.heap d.params kwd dV kV → mg d.name = some (.ref a) → s1.gens = #[] →
      ∀ (args : List WData) (vals : List Value) (as : List Addr), r.claim.pre args = true → ReadsAllW r.records (classAt s0.heap) s1.heap vals args as → WellAll w.params s1.heap vals args → (∀ b ∈ as, s0.heap.objs.size ≤ b) →
        CL (model r.prog w) callerA (.call (.ref a) ⟨vals, []⟩) (fun res y => (∃ v, res = .ok (.ret v)) ∧ GoodWG r.claim (classAt s0.heap) (ExcName.means s0.heap) args s1 res (nog y) ∧ Fine y) s1
/-- the head: in the place of the kit's own, which lets no sleeper with a mark stay behind -/
theorem holdsL {r : OpenRow} {q : Program} {loose : List Str} {Xt : Shared → Bool} {XP : (Str → Option Value) → Heap → Prop} {α : Type} {Yf : Shared → α} {Ya : World → α} {YP : World → Heap → Prop} {d : DefRec} {kwd : List (Str × Expr)} {N : Nat}
    (left : LeftO r.prog q loose Xt Yf Ya N)
    (hY : ∀ w s, Yf s = Ya w → YP w s.heap)
    (hYk : ∀ w h h', YP w h → (∀ b o, h.get? b = some o → h'.get? b = some o) → YP w h')
    (hX : ∀ s, Xt s = true → XP (s.heap.nsMap mainGlobals) s.heap)
    (hXk : ∀ mg h h', XP mg h → (∀ b o, h.get? b = some o → h'.get? b = some o) → XP mg h')
    (hdef : defOf q r.name = some (d, kwd))
    (hp : r.prog.theDef r.name = some (d.params, d.body, d.scope))
    (hk : kwWritten? d.params.kwonlyargs d.params.kw_defaults = some kwd)
    (hRf : ∀ s, Xt s = true → RecFacts r.records s.heap)
    (hwr : (!r.writes || r.records.isEmpty) = true)
    (said : r.wellSaid = true)
    (ok : (chainsOk q && opensWell r.prog && (frees r.toRowW && r.within.isEmpty)) = true)
    (hb : r.prog.bare)
    (hw : r.toRowW.promised)
    (call : WalkL q loose XP YP r.toRowW d kwd) : r.Holds := by
  refine ⟨said, hw, ?_⟩
  obtain ⟨ok1, k5⟩ := Bool.and_eq_true_iff.mp ok
  obtain ⟨hch, o1⟩ := Bool.and_eq_true_iff.mp ok1
  obtain ⟨k5, k6⟩ := Bool.and_eq_true_iff.mp k5
  obtain ⟨hsame, hu, ha, hap, hm⟩ := frees_parts k5
  have hwi : r.toRowW.claim.within = [] := List.isEmpty_iff.mp k6
  refine ⟨⟨hb, o1, by show r.makers.map _ = []; rw [hm]; rfl⟩, hw.witness, fun w => ?_⟩
  have L0 := left.behind (XP := fun mg h => XP mg h ∧ RecFacts r.records h) (fun s hs => ⟨hX s hs, hRf s hs⟩) hch w
  refine ⟨(left.behind hX hch w).1, fun s' hs' => ?_⟩
  obtain ⟨sb, fb, gb, s, ran, hz, hg, isns, G00, y⟩ := L0.2 s' hs'
  have G0 : Ground q loose [] XP w s (s.heap.nsMap mainGlobals) (s.heap.nsMap builtinsNs) s.heap := ⟨G00.T, G00.B, G00.D, G00.TE, G00.TD, G00.W, G00.X.1, G00.cls, G00.has, G00.apart, G00.once, G00.K⟩
  have RF := G00.X.2
  have hg : s.gens = #[] := Array.eq_empty_of_size_eq_zero (beq_iff_eq.mp hg)
  refine ⟨sb, fb, gb, s, ran, fun n hn => ?_, RF.1, RF.2.1, ?_⟩
  · obtain rfl : n = r.name := by split at hn <;> simp_all
    exact pinned_of_view isns G0 hdef hp hk
  · have G : Ground q loose r.records XP w s _ _ s.heap := RF.ground G0
    refine callFromL (c := r.toRowW.claim) hz hg fun args hpre hlay ord hord => ?_
    obtain ⟨⟨vs, s1⟩, laid⟩ := Option.isSome_iff_exists.mp (layAllW_isSome (P := w.params) (ord := ord) G.has args r.args s (pre_splitW hpre).1)
    have keeps := layAllW_keeps _ _ _ laid
    have rest := layAllW_rest _ _ _ laid
    obtain ⟨as, reads, inn, old⟩ := reads_layAllW hord _ _ _ laid hlay s1.heap (fun _ _ e => e)
    have L : Laid r.records w s s1 args vs as := ⟨⟨ord, hord, laid⟩, reads, inn, old, keeps, rest.1.trans hg, rest.2.2.1⟩
    have G1 := G.keeps hXk keeps
    obtain ⟨a, o, pm, cd, doc, dV, kV, h1, h2, h3, h4, h5⟩ := G1.fn hdef
    have Y0 := hY w s y
    have c := call w s s1 _ _ G1 Y0 (hYk _ _ _ Y0 keeps) a o pm cd doc dV kV h2 h3 h4 h5 (defOf_name hdef ▸ h1) L.gens args vs as hpre reads L.well (fun b hb => (inn.2.2 b hb).1)
    have hi := ident_freeW hu ha hap
    refine ⟨vs, s1, laid, ?_⟩
    show WL _ callerA (do match ← nsGet mainNs r.name with
      | some f => do ret (← PySem.call f vs)
      | none => unsupported "claim.caller:no-such-global") _ _ s1
    refine WL.bind (WL.of (wpAny_nsGet G1.T.g ?_))
    rw [h1]
    refine WL.bind (WL.call (c.mono fun res y2 g => ?_))
    obtain ⟨⟨v, rfl⟩, g, F⟩ := g
    have z := g.laid (c := r.toRowW.claim) hsame hwi hi L
    refine WL.pure ⟨_, rfl, ⟨z.1.congr (s' := y2) (s'' := nog y2) rfl, z.2.1, fun q => ⟨namesKept_of ran isns _ keeps g.2.1.old, noTable hwr q⟩⟩, F⟩
end TF
/-! ## TfX -/
/-! law's call, and the walk of its row -/
namespace TF
open PySem PySem.Spec PySem.W PySem.Calls PyProof.Rows L2
section
variable {P : Program} {w : World} {K : PySem.W.Frag} {mg : Str → Option Value} {base : Heap}
variable {fB fS fV fU fH fIC fI fG fN fO fE fM fR fT C pM pR fW fF fL fA fD fX fY : Addr} {dB dS dV dU dH dIC dI dG dN dO dE dM dR dT dW dF dL dA dD dX dY : FuncData}
/-- law keeps its word: it gives True, and what it leaves asleep is fine -/
def LawOk (P : Program) (w : World) (K : PySem.W.Frag) (mg : Str → Option Value) (base : Heap) (f : Addr) (fd : FuncData) : Prop :=
  ∀ (A : Around) (outer : List Env) (s : Shared) (H : Hp) (args : Args) (us : List Value) (a : Addr) (ns : List Int), Room 50 A → Env0 P w K mg base A outer (nog s) H → s.gens = #[] → BindsTo s fd args ((["_law_script"] : List Str).zip us) → Vals [V.ref a] us →
    SqL K H a (ns.map V.int) → ns.length ≤ 63 → (∀ l, H l = none → a ≠ l) →
    CL (model P w) A (.call (.ref f) args) (fun r y => r = .ok (.ret (.bool true)) ∧ ∃ H', y.os = s.os ∧ Un (frs outer) [] H H' s.heap y.heap ∧ HOk P w H' y.heap ∧ Fine y) s
theorem law_ok {f : Addr} {fd : FuncData} (Fn : Fun K "law" "law" sLaw f fd) (B : Bi mg) (TC' : TC K mg C) (D0 : TP K mg fB fS fV fU fH dB dS dV dU dH) (T : TQ K mg C fIC fI fG dIC dI dG) (O : TO K mg fN fO dN dO) (Y : TE' K C fE fM fR pM pR dE dM dR) (R : TR K mg fW fF fL dW dF dL) (L : TL K mg fA fD fX fY dA dD dX dY) : LawOk P w K mg base f fd := by
  intro A outer s H args us a ns hr e0 hg hb r hS hl hal
  obtain ⟨oc, od, kV, doc, pm, an, cdv, ct, osl, e, lk, hcd⟩ := Fn.ex
  subst e
  have lenU : us.length = 1 := r.length.symm
  have KX : K.In s.heap := e0.mod.kin.keeps fun b o e => (e0.bs b o e).1
  have lim : s.heap.NoLimit := e0.mod.nolimit.keeps fun b o e => (e0.bs b o e).1
  have S : FnScope lawN ["_law_script"] (defScope sLaw) := scLaw
  have kinds : ∀ y ∈ (["_law_script"] : List Str).zip us, (defScope sLaw).names.lookup y.1 = some .local ∨ ((defScope sLaw).names.lookup y.1 = some .cell ∧ ((cellsFrom (s.heap.objs.size + 1) (defScope sLaw).names []).lookup y.1).isSome = true) := fun ⟨n, v⟩ hy => by
    rcases S.par n (List.of_mem_zip hy).1 with q | q
    · exact .inl q
    · exact .inr ⟨q, PySem.W.cellsFrom_some _ _ _ (.inl q)⟩
  refine CL.callFunction hr.depth (KX _ _ lk) rfl S.co S.gen rfl (PySem.W.codeRec_of KX hcd) (hb _ _ _ _ ?_)
  refine wpAny_newFunctionEnv_cells S.kind kinds fun env he s1 x => ?_
  subst he
  refine ⟨lim.keeps x.toInCall.keep, CL.func ?_⟩
  obtain ⟨h1, tk, es1, hk1⟩ := x.done
  have gen1 : s1.gens = s.gens := by rw [es1]
  have x' : InCallC (nog s) s.heap.objs.size (bindL (envOfC "law" (defScope sLaw) s.heap.objs.size f cdv).kindOf ((["_law_script"] : List Str).zip us) fun _ => none) (cellsFrom (s.heap.objs.size + 1) (defScope sLaw).names []) (bindC (envOfC "law" (defScope sLaw) s.heap.objs.size f cdv).kindOf ((["_law_script"] : List Str).zip us) fun _ => none) (nog s1) :=
    ⟨⟨⟨h1, tk, by rw [es1]; rfl⟩, x.toInCall.ns, x.toInCall.keep, x.toInCall.fresh⟩, x.cell, x.apart, x.above⟩
  have I0 : Inv (cxOf CX0 P w K mg base lawN "law" (defScope sLaw) f cdv A outer (nog s) H fun _ _ _ => False) [] (start lawN [V.ref a]) H (nog s1) := inv_start S hr.hd e0 rfl r x'
  have I1 : InvL (cxOf CX0 P w K mg base lawN "law" (defScope sLaw) f cdv A outer (nog s) H fun _ _ _ => False).nox [] (start lawN [V.ref a]) H s1 := Inv.wish I0 _
  obtain ⟨t, run, good⟩ := law_body (P := P) (w := w) (base := base) B TC' D0 T O Y R L f cdv A outer (nog s) H (fun _ _ _ => False) (Room.deeper hr _)
  refine (run.run [] s1 (start lawN [V.ref a]) H _ I1 (good a ns H hS hl hal)).thn fun fl y q => ?_
  obtain ⟨more, mo, q, kx⟩ := q
  have fine : (∀ p ∈ more, y.heap.get? p.1 = some p.2) → Fine y := fun pin i x e => by
    rcases kx.bare i x e with z | z | ⟨_, z⟩
    · exact .inl z
    · rw [gen1, hg] at z
      simp at z
    · rcases z with z | ⟨k, l, b, more2, kw, p, fs, o, n, z1, z2, z3, z4⟩
      · exact .inl z
      · exact .inr ⟨k, l, b, more2, kw, p, fs, o, n, z1, z2, pin _ z3, z4⟩
  cases fl with
  | next =>
    obtain ⟨_, _, _, q⟩ := q
    exact q.elim
  | brk =>
    obtain ⟨_, _, _, q⟩ := q
    exact q.elim
  | cont =>
    obtain ⟨_, _, _, q⟩ := q
    exact q.elim
  | ret u =>
    obtain ⟨v, σ', H', J, rv, q⟩ := q
    have q' : v = V.bl true := q
    subst q'
    obtain rfl : u = Value.bool true := rv
    exact ⟨rfl, H', J.os, J.base, J.hok, fine fun p hp => (J.pin p (List.mem_append_right _ (List.mem_append_right _ hp))).1⟩
end
/-- law's call from the heap behind the top, the script laid anew -/
theorem law_callL {P : Program} {w : World} {K : PySem.W.Frag} {mg mb : Str → Option Value} {fa a : Addr} {fd : FuncData} {s1 : Shared} {vs : List Value} {ns : List Int}
    (KX : K.In s1.heap) (hns : s1.heap.Ns mainGlobals mg) (hb : s1.heap.Ns builtinsNs mb) (hbb : ∀ x : Str, x ≠ "__name__" → mb x = bootBuiltins x) (hlim : s1.heap.NoLimit) (hg : s1.gens = #[])
    (ha : s1.heap.get? a = some { cls := .type "list", data := .seq vs.toArray }) (hi : IntsAre vs ns) (hl : ns.length ≤ 63) (hK : K.lookup a = none)
    (F : ∀ b : Heap, K.In b → b.Ns mainGlobals mg → LawOk P w K mg b fa fd) (hbind : ∀ (s : Shared) (u : Value), BindsTo s fd ⟨[u], []⟩ [("_law_script", u)]) :
    CL (model P w) callerA (.call (.ref fa) ⟨[.ref a], []⟩) (fun r y => r = .ok (.ret (.bool true)) ∧ OldK s1.heap y.heap ∧ y.os = s1.os ∧ Fine y) s1 := by
  have rv := vals_ints hi
  obtain ⟨H, eH⟩ : ∃ H : Hp, H = fun b => if b = a then some (.frz { cls := .type "list", data := .seq vs.toArray } (.lst (ns.map V.int))) else none := ⟨_, rfl⟩
  have Ha : H a = some (.frz { cls := .type "list", data := .seq vs.toArray } (.lst (ns.map V.int))) := by rw [eH]; exact if_pos rfl
  have Hn : ∀ b, b ≠ a → H b = none := fun b hb => by rw [eH]; exact if_neg hb
  have hok : HOk P w H s1.heap := fun b u z => by
    by_cases hb : b = a
    · subst hb
      rw [Ha] at z
      cases z
      exact ⟨ha, by rw [List.length_map]; exact Nat.le_trans hl (by decide), vs, _, rv, ha⟩
    · rw [Hn b hb] at z
      cases z
  have notA : ∀ {b : Addr} {o : Obj} {es : Array DictEntry} {ep : Nat}, s1.heap.get? b = some o → o.data = .dict es ep → b ≠ a := fun {b o es ep} e d => by
    rintro rfl
    rw [ha] at e
    cases e
    have d' : Data.seq vs.toArray _ = Data.dict es ep := d
    cases d'
  have nsK : ∀ {b : Addr} {m : Str → Option Value}, s1.heap.Ns b m → (hidT s1.heap H).Ns b m := fun {b m} ⟨o, es, ep, e, d, z⟩ => ⟨o, es, ep, hidT_get e (Hn b (notA e d)), d, z⟩
  have kinB : K.In (hidT s1.heap H) := fun b o e => hidT_get (KX b o e) (Hn b (by rintro rfl; rw [hK] at e; cases e))
  have md : Mod K mg (hidT s1.heap H) := ⟨kinB, nsK hns, ⟨mb, nsK hb, hbb⟩, let ⟨mc, h1, h2⟩ := hlim; ⟨mc, nsK h1, h2⟩⟩
  have e0 : Env0 P w K mg (hidT s1.heap H) callerA [] (nog s1) H := ⟨rfl, md, fun b o e => of_hidT e, Nat.le_of_eq (hidT_size _ _), trivial, fun b hb => absurd (show b ∈ ([] : List Addr) from hb) (by simp), hok, .empty⟩
  refine (F _ kinB (nsK hns) callerA [] s1 H ⟨[.ref a], []⟩ [.ref a] a ns ⟨rfl, by decide, by decide⟩ e0 hg (hbind s1 (.ref a)) (.cons rfl .nil) (.inl (.inr ⟨_, Ha⟩)) hl fun l hl e => ?_).mono fun r y q => ?_
  · subst e
    rw [Ha] at hl
    cases hl
  · obtain ⟨er, H', os, un, hok', fine⟩ := q
    refine ⟨er, OldK.of_keep fun b o e => ?_, os, fine⟩
    by_cases hb : b = a
    · subst hb
      have z := un.frzs b _ _ Ha
      rw [ha] at e
      cases e
      exact (hok' b _ z).1
    · exact un.keep b o e (Hn b hb) (fun z => absurd (show b ∈ ([] : List Addr) from z) (by simp)) (by simp)
/-- the goal that k_head leaves, from law's promise -/
theorem walkL {l : PySem.W.OpenLaw} {q : Program} {loose : List Str} {XP : (Str → Option Value) → Heap → Prop} {YP : World → Heap → Prop} {d : DefRec} {K : Params → PySem.W.Frag} (hn : l.most = some 63) (hdf : d.params.defaults = [])
    (hY : ∀ (w : World) (h : Heap), YP w h → (K w.params).In h)
    (F : ∀ (w : World) (mg : Str → Option Value) (fa : Addr) (h : Heap), (K w.params).In h → h.Ns mainGlobals mg → mg d.name = some (.ref fa) →
      ∃ fd : FuncData, (∀ (s : Shared) (u : Value), BindsTo s fd ⟨[u], []⟩ [("_law_script", u)]) ∧ ∀ b : Heap, (K w.params).In b → b.Ns mainGlobals mg → LawOk l.prog w (K w.params) mg b fa fd) :
    WalkL q loose XP YP l.row.toRowW d [] := by
  intro w s0 s1 mg mb G Y0 Y1 fa o pm cd doc dV kV ho hd hcd hD hmg hg args vals as hpre hrd hwl hnew
  obtain ⟨a, vs, ns, rfl, rfl, hobj, hints, hlen⟩ := Att.script_of hn hpre hwl
  have KX := hY w _ Y1
  have K0 := hY w _ Y0
  have hin : a ∈ as := by
    cases hrd with
    | cons r1 r2 =>
      cases r1 with
      | list _ _ _ _ => simp
  have hKa : (K w.params).lookup a = none := by
    cases e : (K w.params).lookup a with
    | none => rfl
    | some o2 => exact absurd (Heap.lt_size (K0 a o2 e)) (Nat.not_lt.mpr (hnew a hin))
  obtain ⟨fd, hb, hF⟩ := F w mg fa _ KX G.T.g hmg
  refine (law_callL KX G.T.g G.T.b G.T.builtins G.T.nolimit hg hobj hints hlen hKa hF hb).mono fun r y z => ?_
  obtain ⟨rfl, z2, z3, z4⟩ := z
  exact ⟨⟨_, rfl⟩, ⟨.inl ⟨.bool true, .bool true, [], rfl, fun _ => rfl, .bool true, Att.post_true l _, fun _ => ⟨List.Pairwise.nil, fun _ hm => (nomatch hm)⟩⟩, z2, z3, AllBare.empty⟩, z4⟩
end TF
/-! ## TfY -/
/-! what the top has written, and the row -/
namespace TF
open PySem PySem.Spec PySem.W PySem.Calls PyProof.Rows L2
theorem top_made {l : PySem.W.OpenLaw} {w : World} {K : PySem.W.Frag} {h : Heap} {mg : Str → Option Value} {fa C fB fS fV fU fH fIC fG fN fO fW fF fL fA fD fX fY fZ fI fE fM fR pM pR : Addr} (X : K.In h) (G : h.Ns mainGlobals mg) (hfa : mg "law" = some (.ref fa))
    {odB : Option Addr} {anB : Option Addr} {slB : Array (Option Value)} {ocB : Value} {kVB : Value} {dcB : Value} {pmB : Value} {cdB : Value} {ctB : Value} {odS : Option Addr} {anS : Option Addr} {slS : Array (Option Value)} {ocS : Value} {kVS : Value} {dcS : Value} {pmS : Value} {cdS : Value} {ctS : Value} {odV : Option Addr} {anV : Option Addr} {slV : Array (Option Value)} {ocV : Value} {kVV : Value} {dcV : Value} {pmV : Value} {cdV : Value} {ctV : Value} {odU : Option Addr} {anU : Option Addr} {slU : Array (Option Value)} {ocU : Value} {kVU : Value} {dcU : Value} {pmU : Value} {cdU : Value} {ctU : Value} {odH : Option Addr} {anH : Option Addr} {slH : Array (Option Value)} {ocH : Value} {kVH : Value} {dcH : Value} {pmH : Value} {cdH : Value} {ctH : Value} {odIC : Option Addr} {anIC : Option Addr} {slIC : Array (Option Value)} {ocIC : Value} {kVIC : Value} {dcIC : Value} {pmIC : Value} {cdIC : Value} {ctIC : Value} {odG : Option Addr} {anG : Option Addr} {slG : Array (Option Value)} {ocG : Value} {kVG : Value} {dcG : Value} {pmG : Value} {cdG : Value} {ctG : Value} {odN : Option Addr} {anN : Option Addr} {slN : Array (Option Value)} {ocN : Value} {kVN : Value} {dcN : Value} {pmN : Value} {cdN : Value} {ctN : Value} {odO : Option Addr} {anO : Option Addr} {slO : Array (Option Value)} {ocO : Value} {kVO : Value} {dcO : Value} {pmO : Value} {cdO : Value} {ctO : Value} {odW : Option Addr} {anW : Option Addr} {slW : Array (Option Value)} {ocW : Value} {kVW : Value} {dcW : Value} {pmW : Value} {cdW : Value} {ctW : Value} {odF : Option Addr} {anF : Option Addr} {slF : Array (Option Value)} {ocF : Value} {kVF : Value} {dcF : Value} {pmF : Value} {cdF : Value} {ctF : Value} {odL : Option Addr} {anL : Option Addr} {slL : Array (Option Value)} {ocL : Value} {kVL : Value} {dcL : Value} {pmL : Value} {cdL : Value} {ctL : Value} {odA : Option Addr} {anA : Option Addr} {slA : Array (Option Value)} {ocA : Value} {kVA : Value} {dcA : Value} {pmA : Value} {cdA : Value} {ctA : Value} {odD : Option Addr} {anD : Option Addr} {slD : Array (Option Value)} {ocD : Value} {kVD : Value} {dcD : Value} {pmD : Value} {cdD : Value} {ctD : Value} {odX : Option Addr} {anX : Option Addr} {slX : Array (Option Value)} {ocX : Value} {kVX : Value} {dcX : Value} {pmX : Value} {cdX : Value} {ctX : Value} {odY : Option Addr} {anY : Option Addr} {slY : Array (Option Value)} {ocY : Value} {kVY : Value} {dcY : Value} {pmY : Value} {cdY : Value} {ctY : Value} {odZ : Option Addr} {anZ : Option Addr} {slZ : Array (Option Value)} {ocZ : Value} {kVZ : Value} {dcZ : Value} {pmZ : Value} {cdZ : Value} {ctZ : Value} {odI : Option Addr} {anI : Option Addr} {slI : Array (Option Value)} {ocI : Value} {kVI : Value} {dcI : Value} {pmI : Value} {cdI : Value} {ctI : Value} {odE : Option Addr} {anE : Option Addr} {slE : Array (Option Value)} {ocE : Value} {kVE : Value} {dcE : Value} {pmE : Value} {cdE : Value} {ctE : Value} {rsM : List Value} {odM : Option Addr} {anM : Option Addr} {slM : Array (Option Value)} {ocM : Value} {kVM : Value} {dcM : Value} {pmM : Value} {cdM : Value} {ctM : Value} {rsR : List Value} {odR : Option Addr} {anR : Option Addr} {slR : Array (Option Value)} {ocR : Value} {kVR : Value} {dcR : Value} {pmR : Value} {cdR : Value} {ctR : Value} {u1 : Nat} {u2 : Nat} {u3 : Nat}
    (aC : PySem.W.nsIn K mainGlobals "Cell" = some (some (.ref C)))
    (aB : PySem.W.nsIn K mainGlobals "is_between" = some (some (.ref fB)))
    (lB : K.lookup fB = some ⟨ocB, odB, .func (PySem.W.fnOf "is_between" "is_between" (defArgs sBetween) (defBody sBetween) (defScope sBetween) .none kVB dcB pmB anB cdB ctB), slB⟩)
    (cB : PySem.W.codeIn K cdB "is_between" = true)
    (kB : PySem.W.keepIn K (.ref fB) = true)
    (aS : PySem.W.nsIn K mainGlobals "spoiling_triple" = some (some (.ref fS)))
    (lS : K.lookup fS = some ⟨ocS, odS, .func (PySem.W.fnOf "spoiling_triple" "spoiling_triple" (defArgs sSpoil) (defBody sSpoil) (defScope sSpoil) .none kVS dcS pmS anS cdS ctS), slS⟩)
    (cS : PySem.W.codeIn K cdS "spoiling_triple" = true)
    (kS : PySem.W.keepIn K (.ref fS) = true)
    (aV : PySem.W.nsIn K mainGlobals "serving_table" = some (some (.ref fV)))
    (lV : K.lookup fV = some ⟨ocV, odV, .func (PySem.W.fnOf "serving_table" "serving_table" (defArgs sServing) (defBody sServing) (defScope sServing) .none kVV dcV pmV anV cdV ctV), slV⟩)
    (cV : PySem.W.codeIn K cdV "serving_table" = true)
    (kV : PySem.W.keepIn K (.ref fV) = true)
    (aU : PySem.W.nsIn K mainGlobals "unserved_remainder" = some (some (.ref fU)))
    (lU : K.lookup fU = some ⟨ocU, odU, .func (PySem.W.fnOf "unserved_remainder" "unserved_remainder" (defArgs sUnserved) (defBody sUnserved) (defScope sUnserved) .none kVU dcU pmU anU cdU ctU), slU⟩)
    (cU : PySem.W.codeIn K cdU "unserved_remainder" = true)
    (kU : PySem.W.keepIn K (.ref fU) = true)
    (aH : PySem.W.nsIn K mainGlobals "check_shape" = some (some (.ref fH)))
    (lH : K.lookup fH = some ⟨ocH, odH, .func (PySem.W.fnOf "check_shape" "check_shape" (defArgs sShape) (defBody sShape) (defScope sShape) .none kVH dcH pmH anH cdH ctH), slH⟩)
    (cH : PySem.W.codeIn K cdH "check_shape" = true)
    (kH : PySem.W.keepIn K (.ref fH) = true)
    (aIC : PySem.W.nsIn K mainGlobals "is_cell" = some (some (.ref fIC)))
    (lIC : K.lookup fIC = some ⟨ocIC, odIC, .func (PySem.W.fnOf "is_cell" "is_cell" (defArgs sIsCell) (defBody sIsCell) (defScope sIsCell) .none kVIC dcIC pmIC anIC cdIC ctIC), slIC⟩)
    (cIC : PySem.W.codeIn K cdIC "is_cell" = true)
    (kIC : PySem.W.keepIn K (.ref fIC) = true)
    (aG : PySem.W.nsIn K mainGlobals "grown" = some (some (.ref fG)))
    (lG : K.lookup fG = some ⟨ocG, odG, .func (PySem.W.fnOf "grown" "grown" (defArgs sGrown) (defBody sGrown) (defScope sGrown) .none kVG dcG pmG anG cdG ctG), slG⟩)
    (cG : PySem.W.codeIn K cdG "grown" = true)
    (kG : PySem.W.keepIn K (.ref fG) = true)
    (aN : PySem.W.nsIn K mainGlobals "is_integer" = some (some (.ref fN)))
    (lN : K.lookup fN = some ⟨ocN, odN, .func (PySem.W.fnOf "is_integer" "is_integer" (defArgs sIsInt) (defBody sIsInt) (defScope sIsInt) .none kVN dcN pmN anN cdN ctN), slN⟩)
    (cN : PySem.W.codeIn K cdN "is_integer" = true)
    (kN : PySem.W.keepIn K (.ref fN) = true)
    (aO : PySem.W.nsIn K mainGlobals "cells_of" = some (some (.ref fO)))
    (lO : K.lookup fO = some ⟨ocO, odO, .func (PySem.W.fnOf "cells_of" "cells_of" (defArgs sCellsOf) (defBody sCellsOf) (defScope sCellsOf) .none kVO dcO pmO anO cdO ctO), slO⟩)
    (cO : PySem.W.codeIn K cdO "cells_of" = true)
    (kO : PySem.W.keepIn K (.ref fO) = true)
    (aW : PySem.W.nsIn K mainGlobals "_law_sets" = some (some (.ref fW)))
    (lW : K.lookup fW = some ⟨ocW, odW, .func (PySem.W.fnOf "_law_sets" "_law_sets" (defArgs sSets) (defBody sSets) (defScope sSets) .none kVW dcW pmW anW cdW ctW), slW⟩)
    (cW : PySem.W.codeIn K cdW "_law_sets" = true)
    (kW : PySem.W.keepIn K (.ref fW) = true)
    (aF : PySem.W.nsIn K mainGlobals "_law_fault" = some (some (.ref fF)))
    (lF : K.lookup fF = some ⟨ocF, odF, .func (PySem.W.fnOf "_law_fault" "_law_fault" (defArgs sFault) (defBody sFault) (defScope sFault) .none kVF dcF pmF anF cdF ctF), slF⟩)
    (cF : PySem.W.codeIn K cdF "_law_fault" = true)
    (kF : PySem.W.keepIn K (.ref fF) = true)
    (aL : PySem.W.nsIn K mainGlobals "_law_listed" = some (some (.ref fL)))
    (lL : K.lookup fL = some ⟨ocL, odL, .func (PySem.W.fnOf "_law_listed" "_law_listed" (defArgs sListed) (defBody sListed) (defScope sListed) .none kVL dcL pmL anL cdL ctL), slL⟩)
    (cL : PySem.W.codeIn K cdL "_law_listed" = true)
    (kL : PySem.W.keepIn K (.ref fL) = true)
    (aA : PySem.W.nsIn K mainGlobals "_law_begun" = some (some (.ref fA)))
    (lA : K.lookup fA = some ⟨ocA, odA, .func (PySem.W.fnOf "_law_begun" "_law_begun" (defArgs sBegun) (defBody sBegun) (defScope sBegun) .none kVA dcA pmA anA cdA ctA), slA⟩)
    (cA : PySem.W.codeIn K cdA "_law_begun" = true)
    (kA : PySem.W.keepIn K (.ref fA) = true)
    (aD : PySem.W.nsIn K mainGlobals "_law_draw" = some (some (.ref fD)))
    (lD : K.lookup fD = some ⟨ocD, odD, .func (PySem.W.fnOf "_law_draw" "_law_draw" (defArgs sDraw) (defBody sDraw) (defScope sDraw) .none kVD dcD pmD anD cdD ctD), slD⟩)
    (cD : PySem.W.codeIn K cdD "_law_draw" = true)
    (kD : PySem.W.keepIn K (.ref fD) = true)
    (aX : PySem.W.nsIn K mainGlobals "_law_right" = some (some (.ref fX)))
    (lX : K.lookup fX = some ⟨ocX, odX, .func (PySem.W.fnOf "_law_right" "_law_right" (defArgs sRight) (defBody sRight) (defScope sRight) .none kVX dcX pmX anX cdX ctX), slX⟩)
    (cX : PySem.W.codeIn K cdX "_law_right" = true)
    (kX : PySem.W.keepIn K (.ref fX) = true)
    (aY : PySem.W.nsIn K mainGlobals "_law_products_right" = some (some (.ref fY)))
    (lY : K.lookup fY = some ⟨ocY, odY, .func (PySem.W.fnOf "_law_products_right" "_law_products_right" (defArgs sProducts) (defBody sProducts) (defScope sProducts) .none kVY dcY pmY anY cdY ctY), slY⟩)
    (cY : PySem.W.codeIn K cdY "_law_products_right" = true)
    (kY : PySem.W.keepIn K (.ref fY) = true)
    (aZ : PySem.W.nsIn K mainGlobals "law" = some (some (.ref fZ)))
    (lZ : K.lookup fZ = some ⟨ocZ, odZ, .func (PySem.W.fnOf "law" "law" (defArgs sLaw) (defBody sLaw) (defScope sLaw) .none kVZ dcZ pmZ anZ cdZ ctZ), slZ⟩)
    (cZ : PySem.W.codeIn K cdZ "law" = true)
    (kZ : PySem.W.keepIn K (.ref fZ) = true)
    (aI : PySem.W.findIn K (.ref C) "__init__" = some (some (.ref fI)))
    (iI : PySem.W.isFn K (.ref fI) = true)
    (lI : K.lookup fI = some ⟨ocI, odI, .func (PySem.W.fnOf "__init__" "Cell.__init__" (defArgs sInit) (defBody sInit) (defScope sInit) .none kVI dcI pmI anI cdI ctI), slI⟩)
    (cI : PySem.W.codeIn K cdI "Cell.__init__" = true)
    (kI : PySem.W.keepIn K (.ref fI) = true)
    (aE : PySem.W.findIn K (.ref C) "__eq__" = some (some (.ref fE)))
    (iE : PySem.W.isFn K (.ref fE) = true)
    (lE : K.lookup fE = some ⟨ocE, odE, .func (PySem.W.fnOf "__eq__" "Cell.__eq__" (defArgs sEq) (defBody sEq) (defScope sEq) .none kVE dcE pmE anE cdE ctE), slE⟩)
    (cE : PySem.W.codeIn K cdE "Cell.__eq__" = true)
    (kE : PySem.W.keepIn K (.ref fE) = true)
    (aM : PySem.W.findIn K (.ref C) "modulus" = some (some (.ref pM)))
    (gM : PySem.W.specialIn K (.ref pM) "__get__" = some (some (.builtin "property.__get__")))
    (tM : PySem.W.takesIn K (.ref pM) = some true)
    (rM : PySem.W.recIn K pM "property" = some (.ref fM :: rsM))
    (lM : K.lookup fM = some ⟨ocM, odM, .func (PySem.W.fnOf "modulus" "Cell.modulus" (defArgs sModulus) (defBody sModulus) (defScope sModulus) .none kVM dcM pmM anM cdM ctM), slM⟩)
    (cM : PySem.W.codeIn K cdM "Cell.modulus" = true)
    (kM : PySem.W.keepIn K (.ref fM) = true)
    (aR : PySem.W.findIn K (.ref C) "members" = some (some (.ref pR)))
    (gR : PySem.W.specialIn K (.ref pR) "__get__" = some (some (.builtin "property.__get__")))
    (tR : PySem.W.takesIn K (.ref pR) = some true)
    (rR : PySem.W.recIn K pR "property" = some (.ref fR :: rsR))
    (lR : K.lookup fR = some ⟨ocR, odR, .func (PySem.W.fnOf "members" "Cell.members" (defArgs sMembers) (defBody sMembers) (defScope sMembers) .none kVR dcR pmR anR cdR ctR), slR⟩)
    (cR : PySem.W.codeIn K cdR "Cell.members" = true)
    (kR : PySem.W.keepIn K (.ref fR) = true)
    (pg : PySem.W.plainGet K C Str.empty = true)
    (hd : PySem.W.hasDictIn K C = true)
    (po : PySem.W.plainOver K C = true)
    (sa : PySem.W.findIn K (.ref C) "__setattr__" = some (some (.builtin "object.__setattr__")))
    (mk : PySem.W.makesIn K C = true)
    (kC : PySem.W.keepIn K (.ref C) = true)
    (n0 : PySem.W.findIn K (.ref C) "table" = some none)
    (n1 : PySem.W.findIn K (.ref C) "own_modulus" = some none)
    (n2 : PySem.W.findIn K (.ref C) "own_members" = some none)
    (n3 : PySem.W.findIn K (.ref C) "known" = some none)
    (rd : PySem.W.readsIn K C (.type "type") = true)
    (ga : PySem.W.specialIn K (.ref C) "__getattribute__" = some (some (.builtin "type.__getattribute__")))
    (v1 : PySem.W.findCls K (.ref C) (.type "type") "MAX_MODULUS" = some (.val (.int 20000 u1)))
    (v2 : PySem.W.findCls K (.ref C) (.type "type") "MAX_MEMBERS" = some (.val (.int 256 u2)))
    (v3 : PySem.W.nsIn K mainGlobals "MOST_LISTED" = some (some (.int 12 u3)))
    (ha : PySem.W.findIn K (.ref C) "__class__" = some (some (.builtin "object.__class__")))
    (hn : PySem.W.specialIn K (.builtin "object.__class__") "__get__" = some (some (.builtin "getset_descriptor.__get__")))
    (ht : PySem.W.takesIn K (.builtin "object.__class__") = some true)
    (hm : PySem.W.mroIn K C (.type "object") = some true)
    (ne : PySem.W.findIn K (.ref C) "__ne__" = some (some (.builtin "object.__ne__")))
    (z0 : PySem.W.nsIn K mainGlobals "isinstance" = some none)
    (z1 : PySem.W.nsIn K mainGlobals "int" = some none)
    (z2 : PySem.W.nsIn K mainGlobals "bool" = some none)
    (z3 : PySem.W.nsIn K mainGlobals "tuple" = some none)
    (z4 : PySem.W.nsIn K mainGlobals "list" = some none)
    (z5 : PySem.W.nsIn K mainGlobals "len" = some none)
    (z6 : PySem.W.nsIn K mainGlobals "enumerate" = some none)
    (z7 : PySem.W.nsIn K mainGlobals "max" = some none)
    (z8 : PySem.W.nsIn K mainGlobals "min" = some none)
    (z9 : PySem.W.nsIn K mainGlobals "range" = some none)
    (z10 : PySem.W.nsIn K mainGlobals "sorted" = some none)
    (z11 : PySem.W.nsIn K mainGlobals "dict" = some none)
    : ∃ fd : FuncData, (∀ (s : Shared) (v : Value), BindsTo s fd ⟨[v], []⟩ [("_law_script", v)]) ∧ ∀ b : Heap, K.In b → b.Ns mainGlobals mg → LawOk l.prog w K mg b fa fd := by
  have e := hfa.symm.trans (PySem.W.mg_of X G aZ)
  cases e
  have FB := fun_mk (st := sBetween) lB cB kB
  have bB := FB.binds (ps := ["value", "low", "high"]) fun _ _ _ _ _ _ us hl => match us, hl with | [_, _, _], _ => rfl
  have FS := fun_mk (st := sSpoil) lS cS kS
  have bS := FS.binds (ps := ["modulus", "members"]) fun _ _ _ _ _ _ us hl => match us, hl with | [_, _], _ => rfl
  have FV := fun_mk (st := sServing) lV cV kV
  have bV := FV.binds (ps := ["modulus", "members"]) fun _ _ _ _ _ _ us hl => match us, hl with | [_, _], _ => rfl
  have FU := fun_mk (st := sUnserved) lU cU kU
  have bU := FU.binds (ps := ["modulus", "members", "table"]) fun _ _ _ _ _ _ us hl => match us, hl with | [_, _, _], _ => rfl
  have FH := fun_mk (st := sShape) lH cH kH
  have bH := FH.binds (ps := ["modulus", "members"]) fun _ _ _ _ _ _ us hl => match us, hl with | [_, _], _ => rfl
  have FIC := fun_mk (st := sIsCell) lIC cIC kIC
  have bIC := FIC.binds (ps := ["modulus", "members"]) fun _ _ _ _ _ _ us hl => match us, hl with | [_, _], _ => rfl
  have FG := fun_mk (st := sGrown) lG cG kG
  have bG := FG.binds (ps := ["modulus", "members"]) fun _ _ _ _ _ _ us hl => match us, hl with | [_, _], _ => rfl
  have FN := fun_mk (st := sIsInt) lN cN kN
  have FO := fun_mk (st := sCellsOf) lO cO kO
  have bO := FO.binds (ps := ["modulus"]) fun _ _ _ _ _ _ us hl => match us, hl with | [_], _ => rfl
  have FW := fun_mk (st := sSets) lW cW kW
  have bW := FW.binds (ps := ["_law_n"]) fun _ _ _ _ _ _ us hl => match us, hl with | [_], _ => rfl
  have FF := fun_mk (st := sFault) lF cF kF
  have bF := FF.binds (ps := ["_law_n", "_law_row"]) fun _ _ _ _ _ _ us hl => match us, hl with | [_, _], _ => rfl
  have FL := fun_mk (st := sListed) lL cL kL
  have bL := FL.binds (ps := ["_law_n"]) fun _ _ _ _ _ _ us hl => match us, hl with | [_], _ => rfl
  have FA := fun_mk (st := sBegun) lA cA kA
  have bA := FA.binds (ps := ["_law_script"]) fun _ _ _ _ _ _ us hl => match us, hl with | [_], _ => rfl
  have FD := fun_mk (st := sDraw) lD cD kD
  have bD := FD.binds (ps := ["_law_m", "_law_top"]) fun _ _ _ _ _ _ us hl => match us, hl with | [_, _], _ => rfl
  have FX := fun_mk (st := sRight) lX cX kX
  have bX := FX.binds (ps := ["_law_n"]) fun _ _ _ _ _ _ us hl => match us, hl with | [_], _ => rfl
  have FY := fun_mk (st := sProducts) lY cY kY
  have bY := FY.binds (ps := ["_law_n"]) fun _ _ _ _ _ _ us hl => match us, hl with | [_], _ => rfl
  have FZ := fun_mk (st := sLaw) lZ cZ kZ
  have bZ := FZ.binds (ps := ["_law_script"]) fun _ _ _ _ _ _ us hl => match us, hl with | [_], _ => rfl
  have FI := fun_mk (st := sInit) lI cI kI
  have bI := FI.binds (ps := ["self", "modulus", "members"]) fun _ _ _ _ _ _ us hl => match us, hl with | [_, _, _], _ => rfl
  have FE := fun_mk (st := sEq) lE cE kE
  have bE := FE.binds (ps := ["self", "other"]) fun _ _ _ _ _ _ us hl => match us, hl with | [_, _], _ => rfl
  have FM := fun_mk (st := sModulus) lM cM kM
  have bM := FM.binds (ps := ["self"]) fun _ _ _ _ _ _ us hl => match us, hl with | [_], _ => rfl
  have FR := fun_mk (st := sMembers) lR cR kR
  have bR := FR.binds (ps := ["self"]) fun _ _ _ _ _ _ us hl => match us, hl with | [_], _ => rfl
  have B : Bi mg := ⟨PySem.W.mg_none_of X G z0, PySem.W.mg_none_of X G z1, PySem.W.mg_none_of X G z2, PySem.W.mg_none_of X G z3, PySem.W.mg_none_of X G z4, PySem.W.mg_none_of X G z5, PySem.W.mg_none_of X G z6, PySem.W.mg_none_of X G z7, PySem.W.mg_none_of X G z8, PySem.W.mg_none_of X G z9, PySem.W.mg_none_of X G z10, PySem.W.mg_none_of X G z11⟩
  have TC' : TC K mg C := ⟨⟨pg, hd, po, sa⟩, PySem.W.mg_of X G aC, ⟨.type "type", ⟨rd, ga⟩, ⟨_, v1, u1, rfl⟩, ⟨_, v2, u2, rfl⟩⟩, n0, n1, n2, n3, by unfold PySem.W.kitOne; simp, ha, hn, ht, hm⟩
  have D0 := TP.mk FB bB (PySem.W.mg_of X G aB) FS bS (PySem.W.mg_of X G aS) FV bV (PySem.W.mg_of X G aV) FU bU (PySem.W.mg_of X G aU) FH bH (PySem.W.mg_of X G aH)
  have T := TQ.mk FIC bIC (PySem.W.mg_of X G aIC) FI ⟨mk, aI, iI, kC⟩ bI FG bG (PySem.W.mg_of X G aG)
  have O := TO.mk FN (PySem.W.mg_of X G aN) FO bO (PySem.W.mg_of X G aO) ⟨u3, PySem.W.mg_of X G v3⟩
  have Y := TE'.mk (C := C) FE bE aE iE ne FM bM ⟨aM, gM, tM, _, rM⟩ FR bR ⟨aR, gR, tR, _, rR⟩
  have R := TR.mk FW bW (PySem.W.mg_of X G aW) FF bF (PySem.W.mg_of X G aF) FL bL (PySem.W.mg_of X G aL)
  have L := TL.mk FA bA (PySem.W.mg_of X G aA) FD bD (PySem.W.mg_of X G aD) FX bX (PySem.W.mg_of X G aX) FY bY (PySem.W.mg_of X G aY)
  exact ⟨_, fun s v => .of_eq rfl, fun base _ _ => law_ok FZ B TC' D0 T O Y R L⟩
end TF
/-! ## TfZ -/
/-! the row -/
namespace TFend
open PySem.W PySem.Calls PyProof.Rows
open PySem hiding Ctx
/-- k_head names its head without the root: here it finds this one -/
theorem PySem.W.holds_open {r : OpenRow} {q : Program} {loose : List Str} {Xt : Shared → Bool} {XP : (Str → Option Value) → Heap → Prop} {α : Type} {Yf : Shared → α} {Ya : World → α} {YP : World → Heap → Prop} {d : DefRec} {kwd : List (Str × Expr)} {N : Nat}
    (left : LeftO r.prog q loose Xt Yf Ya N)
    (hY : ∀ w s, Yf s = Ya w → YP w s.heap)
    (hYk : ∀ w h h', YP w h → (∀ b o, h.get? b = some o → h'.get? b = some o) → YP w h')
    (hX : ∀ s, Xt s = true → XP (s.heap.nsMap mainGlobals) s.heap)
    (hXk : ∀ mg h h', XP mg h → (∀ b o, h.get? b = some o → h'.get? b = some o) → XP mg h')
    (hdef : defOf q r.name = some (d, kwd))
    (hp : r.prog.theDef r.name = some (d.params, d.body, d.scope))
    (hk : kwWritten? d.params.kwonlyargs d.params.kw_defaults = some kwd)
    (hRf : ∀ s, Xt s = true → RecFacts r.records s.heap)
    (hwr : (!r.writes || r.records.isEmpty) = true)
    (said : r.wellSaid = true)
    (ok : (chainsOk q && opensWell r.prog && (frees r.toRowW && r.within.isEmpty)) = true)
    (hb : r.prog.bare)
    (hw : r.toRowW.promised)
    (call : TF.WalkL q loose XP YP r.toRowW d kwd) : r.Holds := TF.holdsL left hY hYk hX hXk hdef hp hk hRf hwr said ok hb hw call
set_option maxHeartbeats 0 in
theorem row : PySem.Challenge.rw_triplefree_k44_whole_cells_listed.Holds := by
  w_on; o_law; k_head; (case hw => w_witness2)
  k_fill
  refine TF.walkL (l := PySem.Challenge.rw_triplefree_k44_whole_cells_listed) rfl rfl (fun w h Y => _root_.PySem.W.kIn_of Y) ?F
  case F =>
    intro w mg fa h KX G hmg
    refine' TF.top_made KX G hmg ?aC ?aB ?lB ?cB ?kB ?aS ?lS ?cS ?kS ?aV ?lV ?cV ?kV ?aU ?lU ?cU ?kU ?aH ?lH ?cH ?kH ?aIC ?lIC ?cIC ?kIC ?aG ?lG ?cG ?kG ?aN ?lN ?cN ?kN ?aO ?lO ?cO ?kO ?aW ?lW ?cW ?kW ?aF ?lF ?cF ?kF ?aL ?lL ?cL ?kL ?aA ?lA ?cA ?kA ?aD ?lD ?cD ?kD ?aX ?lX ?cX ?kX ?aY ?lY ?cY ?kY ?aZ ?lZ ?cZ ?kZ ?aI ?iI ?lI ?cI ?kI ?aE ?iE ?lE ?cE ?kE ?aM ?gM ?tM ?rM ?lM ?cM ?kM ?aR ?gR ?tR ?rR ?lR ?cR ?kR ?pg ?hd ?po ?sa ?mk ?kC ?n0 ?n1 ?n2 ?n3 ?rd ?ga ?v1 ?v2 ?v3 ?ha ?hn ?ht ?hm ?ne ?z0 ?z1 ?z2 ?z3 ?z4 ?z5 ?z6 ?z7 ?z8 ?z9 ?z10 ?z11
    (case aC => k_is); (case aB => k_is); (case lB => k_is); (case cB => k_is); (case kB => k_is); (case aS => k_is); (case lS => k_is); (case cS => k_is); (case kS => k_is); (case aV => k_is); (case lV => k_is)
    (case cV => k_is); (case kV => k_is); (case aU => k_is); (case lU => k_is); (case cU => k_is); (case kU => k_is); (case aH => k_is); (case lH => k_is); (case cH => k_is); (case kH => k_is); (case aIC => k_is)
    (case lIC => k_is); (case cIC => k_is); (case kIC => k_is); (case aG => k_is); (case lG => k_is); (case cG => k_is); (case kG => k_is); (case aN => k_is); (case lN => k_is); (case cN => k_is); (case kN => k_is)
    (case aO => k_is); (case lO => k_is); (case cO => k_is); (case kO => k_is); (case aW => k_is); (case lW => k_is); (case cW => k_is); (case kW => k_is); (case aF => k_is); (case lF => k_is); (case cF => k_is)
    (case kF => k_is); (case aL => k_is); (case lL => k_is); (case cL => k_is); (case kL => k_is); (case aA => k_is); (case lA => k_is); (case cA => k_is); (case kA => k_is); (case aD => k_is); (case lD => k_is)
    (case cD => k_is); (case kD => k_is); (case aX => k_is); (case lX => k_is); (case cX => k_is); (case kX => k_is); (case aY => k_is); (case lY => k_is); (case cY => k_is); (case kY => k_is); (case aZ => k_is)
    (case lZ => k_is); (case cZ => k_is); (case kZ => k_is); (case aI => k_is); (case iI => k_is); (case lI => k_is); (case cI => k_is); (case kI => k_is); (case aE => k_is); (case iE => k_is); (case lE => k_is)
    (case cE => k_is); (case kE => k_is); (case aM => k_is); (case gM => k_is); (case tM => k_is); (case rM => k_is); (case lM => k_is); (case cM => k_is); (case kM => k_is); (case aR => k_is); (case gR => k_is)
    (case tR => k_is); (case rR => k_is); (case lR => k_is); (case cR => k_is); (case kR => k_is); (case pg => k_is); (case hd => k_is); (case po => k_is); (case sa => k_is); (case mk => k_is); (case kC => k_is)
    (case n0 => k_is); (case n1 => k_is); (case n2 => k_is); (case n3 => k_is); (case rd => k_is); (case ga => k_is); (case v1 => k_is); (case v2 => k_is); (case v3 => k_is); (case ha => k_is); (case hn => k_is)
    (case ht => k_is); (case hm => k_is); (case ne => k_is); (case z0 => k_is); (case z1 => k_is); (case z2 => k_is); (case z3 => k_is); (case z4 => k_is); (case z5 => k_is); (case z6 => k_is); (case z7 => k_is)
    (case z8 => k_is); (case z9 => k_is); (case z10 => k_is); (case z11 => k_is)
end TFend
set_option maxRecDepth 100000 in
set_option maxHeartbeats 0 in
theorem PySem.Challenge.cw_triplefree_k44_whole_cells_listed_holds : PySem.Challenge.rw_triplefree_k44_whole_cells_listed.Holds := by
  exact TFend.row
