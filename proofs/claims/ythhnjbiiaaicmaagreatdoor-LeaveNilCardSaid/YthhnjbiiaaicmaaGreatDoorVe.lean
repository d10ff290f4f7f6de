/- A run along a path, and the few conditions that are left. -/
import Derived.Test.YthhnjbiiaaicmaaGreatDoorVd
import Derived.SizedLaws
/-! The abstract machine, part 31: a run along a path, and the few conditions that are left. -/
namespace Go.VAbs
open Go Go.RowKit
set_option linter.unusedVariables false
noncomputable section
set_option linter.unusedSimpArgs false

def condsOf : Option (Value × AS × OSt) → List (Bool × Bool)
  | some (_, _, q) => q.cs
  | none => []
def valOf : Option (Value × AS × OSt) → Option Value
  | some (v, _, _) => some v
  | none => none
/-- All but those that the mask lets go. -/
def maskAll : List Bool → List (Bool × Bool) → Bool
  | _, [] => true
  | [], p :: r => cond (p.1 == p.2) (maskAll [] r) false
  | true :: m, _ :: r => maskAll m r
  | false :: m, p :: r => cond (p.1 == p.2) (maskAll m r) false
def pickL : List Bool → List (Bool × Bool) → List (Bool × Bool)
  | _, [] => []
  | [], _ => []
  | true :: m, p :: r => p :: pickL m r
  | false :: m, _ :: r => pickL m r
theorem mask_holds : ∀ (m : List Bool) (l : List (Bool × Bool)), maskAll m l = true → (∀ p ∈ pickL m l, p.1 = p.2) → ∀ p ∈ l, p.1 = p.2
  | _, [], _, _ => by simp
  | [], p :: r, h1, h2 => by
    simp only [maskAll, cond_eq_ite] at h1
    split at h1
    · rename_i hp
      intro x hx
      rcases List.mem_cons.1 hx with rfl | hx
      · exact beq_iff_eq.1 hp
      · exact mask_holds [] r h1 (by cases r <;> simp [pickL]) x hx
    · cases h1
  | true :: m, p :: r, h1, h2 => by
    intro x hx
    rcases List.mem_cons.1 hx with rfl | hx
    · exact h2 x (by simp [pickL])
    · exact mask_holds m r h1 (fun y hy => h2 y (by simp [pickL, hy])) x hx
  | false :: m, p :: r, h1, h2 => by
    simp only [maskAll, cond_eq_ite] at h1
    split at h1
    · rename_i hp
      intro x hx
      rcases List.mem_cons.1 hx with rfl | hx
      · exact beq_iff_eq.1 hp
      · exact mask_holds m r h1 (fun y hy => h2 y (by simpa [pickL] using hy)) x hx
    · cases h1
theorem path_ok {call : ACall} {callO : OCall} (hs : OSound call callO) {n : Nat} {args : List Value} {σ : AS} {q : OSt} {v : Value} (m : List Bool) (hv : valOf (callO n args σ q) = some v) (h1 : maskAll m (condsOf (callO n args σ q)) = true)
    (h2 : ∀ p ∈ pickL m (condsOf (callO n args σ q)), p.1 = p.2) : (call n args σ).map (·.1) = some v := by
  have hc := mask_holds m _ h1 h2
  cases hr : callO n args σ q with
  | none => rw [hr] at hv; cases hv
  | some r =>
    obtain ⟨v0, σ', q'⟩ := r
    rw [hr] at hv hc
    simp only [valOf, Option.some.injEq] at hv
    subst hv
    rw [(hs _ _ _ _ _ _ _ hr hc).1]; rfl
def noPO : Nat → Option (List Value → AS → OSt → Option (Value × AS × OSt)) := fun _ => none
theorem symCall_ok (E : Env) (sym : Nat → Bool) (k : Nat) : OSound (acall E k) (acallO E sym noPO k) := acallO_ok (fun n g h => by cases h) k
end
end Go.VAbs

/-! The abstract machine, part 32: the wrap of a law whose row lists variables, the world's shape kept. -/
namespace Go.VAbs
open Go Go.RowKit
set_option linter.unusedVariables false
noncomputable section
variable {H : Type} {enc : TypeId × Value → H}

theorem handed_shaped {a : Assume} {C : Checked} {os : Os} {f : FuncId} {fn : Func} {s : ChangeSpec} {conds : List PathCond} {apart fresh handsOn again : Bool} {X : World → Array Value → Prop}
    (hX : ∀ (w w' : World) (args : Array Value), w.heap = w'.heap → X w args → X w' args)
    (own : ownKnob C.prog.godebug = none) (started : os.Started) (noInit : C.prog.inits.idxOf? f = none) (hfn : C.prog.funcs[f]? = some fn)
    (witness : ∃ (w : World) (tape : Tape) (i : Input), w.os = os ∧ (w.forCall tape i).Shaped C.prog ∧ i.vars = [] ∧ Input.okWide C.prog (w.forCall tape i) .any w.heap.size f i ∧
      ((s.pre enc C.prog fn conds apart (w.forCall tape i).memory i.args ∧ X (w.forCall tape i).memory i.args) ∧ sizedMet enc C.prog fn (OpenSpec.ofChange s) apart (w.forCall tape i).memory i.args) ∧ a.holds C.prog (lone (Frame.enter C.prog f i.args .normal) [] (w.forCall tape i)))
    (contract : ∀ (W : World) (base : Nat) (args : Array Value) (ds gs : List (DataW H)) (before : List MemPlace),
      W.ShapedOpen C.prog →
      (∀ (j : Nat) t v, fn.params[j]? = some t → args[j]? = some v → Value.okWide C.prog W .any base t v) →
      DataW.Whole enc C.prog fn.params.toList s.vars apart W args.toList ds gs before →
      (DataW.weightsEach C.prog (fn.params.toList ++ s.plain.varTypes C.prog) (ds ++ gs)).all (· ≤ reachBytes) = true →
      Calls C.prog f args W fun e W' => ∃ v, e = .returned v ∧ s.post enc C.prog fn apart fresh handsOn again W args v W') :
    ReturnsInHanded a C os f .any (fun w args => (s.pre enc C.prog fn conds apart w args ∧ X w args) ∧ sizedMet enc C.prog fn (OpenSpec.ofChange s) apart w args) (s.post enc C.prog fn apart fresh handsOn again) := by
  refine returnsInHanded_of_calls own started noInit witness ?_
  intro w tape i _ hshape _ hok hpre _
  obtain ⟨_, _, _, g, hg, _, _, _, _, hval⟩ := hok
  obtain rfl : g = fn := Option.some.inj (hg.symm.trans hfn)
  obtain ⟨⟨⟨ds, gs, before, hw, _⟩, _⟩, hz⟩ := hpre
  refine (contract (w.forCall tape i) w.heap.size i.args ds gs before hshape hval (DataW.Whole.of_heap (w' := w.forCall tape i) (by rfl) hw) (hz.weights hw)).mono fun e W' ⟨v, he, hp⟩ => ?_
  subst he
  exact ChangeSpec.post_blind hp

theorem cells_of_cell {w : World} {g : Nat} {v : Value} (h : w.cell? ⟨g, 0, none⟩ = some v) : ∃ arr t fr, w.heap[g]? = some (.cells arr t fr) := by
  unfold World.cell? at h
  cases hb : w.heap[g]? with
  | none => rw [hb] at h; simp at h
  | some o =>
    cases o with
    | cells arr t fr => exact ⟨arr, t, fr, rfl⟩
    | _ => rw [hb] at h; simp at h
end
end Go.VAbs
