/- The abstract machine's steps, regions and calls do what the model's do: acall_ok. -/
import Derived.Test.YtejjbkocmbfpeaaGreatDoorVb
import Derived.Scope
/-! The abstract machine, part 16: what an operation does to the abstract heap; one operation, wherever it comes up. -/
namespace Go.VAbs
open Go
set_option linter.unusedVariables false
noncomputable section
set_option linter.unusedSimpArgs false

/-- From one abstract heap to a later one. -/
structure ASExt (σ σ' : AS) : Prop where
  next : σ.next ≤ σ'.next
  ws : ∀ b, b ∈ σ.ws → b ∈ σ'.ws
  keep : ∀ b, b < σ.next → b ∉ σ'.ws → σ'.get b = σ.get b
  wf : (∀ b, σ.next ≤ b → σ.get b = none) → ∀ b, σ'.next ≤ b → σ'.get b = none
theorem ASExt.refl (σ : AS) : ASExt σ σ := ⟨Nat.le_refl _, fun _ h => h, fun _ _ _ => rfl, fun h => h⟩
theorem ASExt.trans {a b c : AS} (h : ASExt a b) (k : ASExt b c) : ASExt a c :=
  ⟨Nat.le_trans h.next k.next, fun x q => k.ws x (h.ws x q), fun x h1 h2 => by
    rw [k.keep x (Nat.lt_of_lt_of_le h1 h.next) h2, h.keep x h1 (fun q => h2 (k.ws x q))], fun w => k.wf (h.wf w)⟩
theorem ASExt.alloc (σ : AS) (o : AObj) : ASExt σ (σ.alloc o) := by
  refine ⟨by simp [AS.alloc], fun _ h => h, ?_, ?_⟩
  · intro b h1 _
    rw [AS.get_alloc]; unfold upd; rw [if_neg (by omega)]
  · intro h b hb
    rw [AS.get_alloc]; unfold upd
    have : σ.next + 1 ≤ b := hb
    rw [if_neg (by omega)]; exact h b (by omega)
theorem ASExt.put {σ : AS} {b : Nat} (o : AObj) (h : σ.get b ≠ none) : ASExt σ (σ.put b o) := by
  refine ⟨Nat.le_refl _, fun x h => List.mem_cons_of_mem _ h, ?_, ?_⟩
  · intro x _ h2
    rw [AS.get_put]; unfold upd; rw [if_neg (fun e => h2 (by rw [e]; exact List.mem_cons_self))]
  · intro w x hx
    rw [AS.get_put]; unfold upd
    have : x ≠ b := fun e => h (w b (by rw [← e]; exact hx))
    rw [if_neg this]; exact w x hx

inductive MemShape (σ : AS) : AS → Bool → Prop
  | same (loud : Bool) : MemShape σ σ loud
  | put {b : Nat} (o : AObj) (h : σ.get b ≠ none) : MemShape σ (σ.put b o) true
  | alloc (o : AObj) (loud : Bool) : MemShape σ (σ.alloc o) loud
  | regrow {b : Nat} (o : AObj) (h : σ.get b ≠ none) : MemShape σ ((σ.alloc o).put b .dead) true
theorem MemShape.ext {σ σ' : AS} {l : Bool} (h : MemShape σ σ' l) : ASExt σ σ' := by
  cases h with
  | same => exact .refl σ
  | put o h => exact .put o h
  | alloc o => exact .alloc σ o
  | @regrow b o h =>
    refine (ASExt.alloc σ o).trans (.put _ ?_)
    rw [AS.get_alloc]; unfold upd
    split
    · simp
    · exact h
theorem MemShape.ws_quiet {σ σ' : AS} (h : MemShape σ σ' false) : σ'.ws = σ.ws := by
  cases h with
  | same => rfl
  | alloc o => rfl
theorem MemShape.quiet {σ σ' : AS} (h : MemShape σ σ' false) : ∀ b, b < σ.next → σ'.get b = σ.get b := by
  cases h with
  | same => intro b _; rfl
  | alloc o => intro b hb; rw [AS.get_alloc]; unfold upd; rw [if_neg (by omega)]

section
variable {E : Env} {T : ATmps} {σ σ' : AS}

theorem write_shape {a : Addr} {vs : List Value} (h : σ.write a vs = some σ') : MemShape σ σ' true := by
  obtain ⟨_, c, gr, h2, _, _, h5⟩ := AS.write_some h
  rw [h5]; exact .put _ (by rw [h2]; simp)

theorem agrow_shape {t : TypeId} {base : Option Addr} {sl sc : Nat} {x v : Value} {loud : Bool} (e : agrow E σ t base sl sc x = some (v, σ', loud)) : MemShape σ σ' loud := by
  unfold agrow at e
  simp only [cond_eq_ite] at e
  repeat' split at e
  all_goals first
    | (cases e; done)
    | (simp only [Option.some.injEq, Prod.mk.injEq] at e; obtain ⟨_, rfl, rfl⟩ := e; exact .alloc _ _)
theorem aclear_shape {ts : Array TypeId} {x v : Value} {loud : Bool} (e : aclear E σ ts x = some (v, σ', loud)) : MemShape σ σ' loud := by
  unfold aclear at e
  simp only [cond_eq_ite] at e
  repeat' split at e
  all_goals first
    | (cases e; done)
    | (simp only [Option.some.injEq, Prod.mk.injEq] at e; obtain ⟨_, rfl, rfl⟩ := e; exact .same _)
    | (simp only [Option.map_eq_some_iff, Prod.mk.injEq] at e; obtain ⟨σ1, hw, _, rfl, rfl⟩ := e; exact write_shape hw)

theorem aappend_shape {ts : Array TypeId} {s x v : Value} {loud : Bool} (e : aappend E σ ts s x = some (v, σ', loud)) : MemShape σ σ' loud := by
  unfold aappend at e
  simp only [cond_eq_ite] at e
  repeat' split at e
  all_goals first
    | (cases e; done)
    | (simp only [Option.some.injEq, Prod.mk.injEq] at e; obtain ⟨_, rfl, rfl⟩ := e; exact .same _)
    | (simp only [Option.some.injEq, Prod.mk.injEq] at e; obtain ⟨_, rfl, rfl⟩ := e; exact .alloc _ _)
    | (simp only [Option.map_eq_some_iff, Prod.mk.injEq] at e; obtain ⟨σ1, hw, _, rfl, rfl⟩ := e; exact write_shape hw)
    | (simp only [Option.some.injEq, Prod.mk.injEq] at e; obtain ⟨_, rfl, rfl⟩ := e; exact .regrow _ (by rw [‹σ.get _ = some _›]; simp))
    | exact agrow_shape e

theorem acopy_shape {ts : Array TypeId} {s x v : Value} {loud : Bool} (e : acopy E σ ts s x = some (v, σ', loud)) : MemShape σ σ' loud := by
  unfold acopy at e
  repeat' split at e
  all_goals first
    | (cases e; done)
    | (simp only [Option.some.injEq, Prod.mk.injEq] at e; obtain ⟨_, rfl, rfl⟩ := e; exact .same _)
    | (simp only [Option.map_eq_some_iff, Prod.mk.injEq] at e; obtain ⟨σ1, hw, _, rfl, rfl⟩ := e; exact write_shape hw)

theorem amapUpdate_shape {t : TypeId} {m k v : Value} (e : amapUpdate E σ t m k v = some σ') : MemShape σ σ' true := by
  unfold amapUpdate at e
  simp only [cond_eq_ite] at e
  repeat' split at e
  all_goals first
    | (cases e; done)
    | (simp only [Option.some.injEq] at e; subst e; exact .put _ (by rw [‹σ.get _ = some _›]; simp))

theorem adelete_shape {ts : Array TypeId} {m k : Value} (e : adelete E σ ts m k = some σ') : MemShape σ σ' true := by
  unfold adelete at e
  simp only [cond_eq_ite] at e
  repeat' split at e
  all_goals first
    | (cases e; done)
    | (simp only [Option.some.injEq] at e; subst e; exact .same _)
    | (simp only [Option.some.injEq] at e; subst e; exact .put _ (by rw [‹σ.get _ = some _›]; simp))

theorem amapEntry_shape {t : TypeId} {m k v : Value} (e : amapEntry E σ t m k = some (v, σ')) : MemShape σ σ' true := by
  unfold amapEntry at e
  simp only [cond_eq_ite] at e
  repeat' split at e
  all_goals first
    | (cases e; done)
    | (simp only [Option.some.injEq, Prod.mk.injEq] at e; obtain ⟨_, rfl⟩ := e; exact .put _ (by rw [‹σ.get _ = some _›]; simp))

theorem aentryStore_shape {m k v : Value} (e : aentryStore σ m k v = some σ') : MemShape σ σ' true := by
  unfold aentryStore at e
  repeat' split at e
  all_goals first
    | (cases e; done)
    | (simp only [Option.some.injEq] at e; subst e; exact .put _ (by rw [‹σ.get _ = some _›]; simp))

theorem arange_shape {t : TypeId} {m v : Value} {loud : Bool} (e : arange E σ t m = some (v, σ', loud)) : MemShape σ σ' loud := by
  unfold arange at e
  repeat' split at e
  all_goals first
    | (cases e; done)
    | (simp only [Option.some.injEq, Prod.mk.injEq] at e; obtain ⟨_, rfl, rfl⟩ := e; exact .alloc _ _)
theorem amnext_shape {m v : Value} {loud : Bool} (e : amnext σ m = some (v, σ', loud)) : MemShape σ σ' loud := by
  unfold amnext at e
  simp only [cond_eq_ite] at e
  repeat' split at e
  all_goals first
    | (cases e; done)
    | (simp only [Option.some.injEq, Prod.mk.injEq] at e; obtain ⟨_, rfl, rfl⟩ := e; exact .same _)
    | (simp only [Option.some.injEq, Prod.mk.injEq] at e; obtain ⟨_, rfl, rfl⟩ := e; exact .put _ (by rw [‹σ.get _ = some (.miter _ _ _ _)›]; simp))
theorem amentry_shape {m v : Value} {loud : Bool} (e : amentry σ m = some (v, σ', loud)) : MemShape σ σ' loud := by
  unfold amentry at e
  simp only [cond_eq_ite] at e
  repeat' split at e
  all_goals first
    | (cases e; done)
    | (simp only [Option.some.injEq, Prod.mk.injEq] at e; obtain ⟨_, rfl, rfl⟩ := e; exact .same _)
theorem amem_shape {o : Op} {v : Value} {loud : Bool} (e : amem E T o σ = some (v, σ', loud)) : MemShape σ σ' loud := by
  unfold amem at e
  cases o with
  | lookup t x i ok =>
    simp only at e
    split at e
    · simp only [Option.map_eq_some_iff, Prod.mk.injEq] at e; obtain ⟨_, _, _, rfl, rfl⟩ := e; exact .same _
    · cases e
  | mapUpdate t m k x =>
    simp only at e
    split at e
    · simp only [Option.map_eq_some_iff, Prod.mk.injEq] at e; obtain ⟨_, q, _, rfl, rfl⟩ := e; exact amapUpdate_shape q
    · cases e
  | insert t m k x =>
    simp only at e
    split at e
    · simp only [Option.map_eq_some_iff, Prod.mk.injEq] at e; obtain ⟨_, q, _, rfl, rfl⟩ := e; exact amapUpdate_shape q
    · cases e
  | mapEntry t m k =>
    simp only at e
    split at e
    · simp only [Option.map_eq_some_iff, Prod.mk.injEq] at e; obtain ⟨⟨_, _⟩, q, _, rfl, rfl⟩ := e; exact amapEntry_shape q
    · cases e
  | entryStore t m s x =>
    simp only at e
    split at e
    · simp only [Option.map_eq_some_iff, Prod.mk.injEq] at e; obtain ⟨_, q, _, rfl, rfl⟩ := e; exact aentryStore_shape q
    · cases e
  | next it str =>
    cases str with
    | false =>
      simp only at e
      split at e
      · exact amnext_shape e
      · cases e
    | true =>
      simp only [cond_eq_ite] at e
      split at e
      · split at e
        · rename_i hblk
          split at e
          · simp only [Option.some.injEq, Prod.mk.injEq] at e; obtain ⟨_, rfl, rfl⟩ := e; exact .put _ (by rw [hblk]; simp)
          · simp only [Option.some.injEq, Prod.mk.injEq] at e; obtain ⟨_, rfl, rfl⟩ := e; exact .same _
        · cases e
      · cases e
  | range t x =>
    simp only at e
    split at e
    · exact arange_shape e
    · cases e
  | entry it =>
    simp only at e
    split at e
    · exact amentry_shape e
    · cases e
  | convert s d x =>
    simp only [cond_eq_ite] at e
    repeat' split at e
    all_goals first
      | (cases e; done)
      | (simp only [Option.some.injEq, Prod.mk.injEq] at e; obtain ⟨_, rfl, rfl⟩ := e; exact .same _)
  | call c =>
    simp only at e
    split at e
    · exact aappend_shape e
    · exact acopy_shape e
    · simp only [Option.map_eq_some_iff, Prod.mk.injEq] at e; obtain ⟨_, q, _, rfl, rfl⟩ := e; exact adelete_shape q
    · exact aclear_shape e
    · split at e
      · simp only [Option.map_eq_some_iff, Prod.mk.injEq] at e; obtain ⟨_, _, _, rfl, rfl⟩ := e; exact .same _
      · cases e
    · split at e
      · split at e
        · simp only [Option.some.injEq, Prod.mk.injEq] at e; obtain ⟨_, rfl, rfl⟩ := e; exact .same _
        · cases e
      · cases e
    · cases e
  | _ => simp at e

theorem amemFoot_cases (E : Env) (T : ATmps) (op : Op) (σ σ' : AS) (l : List Nat) :
    (amemFoot E T op σ σ' l = .all l) ∨ (∃ t m k, op = .mapEntry t m k ∧ amemFoot E T op σ σ' l = .all l) ∨
    (∃ t x i b k, op = .lookup t x i false ∧ ev E T x = some (.map (some b)) ∧ ev E T i = some k ∧ (lookAt E t k (σ.get b)).isSome = true ∧ amemFoot E T op σ σ' l = .look b t k) ∨
    (∃ t m k0 b k, op = .mapEntry t m k0 ∧ ev E T m = some (.map (some b)) ∧ ev E T k0 = some k ∧ entSafe E t k (σ.get b) (σ'.get b) = true ∧ amemFoot E T op σ σ' l = .ent b t k) := by
  unfold amemFoot
  split
  · rename_i t x i
    split
    · rename_i b k h1 h2
      cases h3 : (lookAt E t k (σ.get b)).isSome with
      | true => exact .inr (.inr (.inl ⟨t, x, i, b, k, rfl, h1, h2, h3, rfl⟩))
      | false => exact .inl rfl
    · exact .inl rfl
  · rename_i t m k0
    split
    · rename_i b k h1 h2
      cases h3 : entSafe E t k (σ.get b) (σ'.get b) with
      | true => exact .inr (.inr (.inr ⟨t, m, k0, b, k, rfl, h1, h2, h3, rfl⟩))
      | false => exact .inr (.inl ⟨_, _, _, rfl, rfl⟩)
    · exact .inr (.inl ⟨_, _, _, rfl, rfl⟩)
  · exact .inl rfl
/-- What an operation may have turned. -/
def writes (f : Foot) (σ σ' : AS) (b : Nat) : Prop := (σ.next ≤ b ∧ b < σ'.next) ∨ f = .wr b ∨ (loudAt b f = true ∧ b < σ.next)

structure CallExt (call : ACall) : Prop where
  ext : ∀ n args σ v σ', call n args σ = some (v, σ') → ASExt σ σ'

theorem aoper_ext {call : ACall} (hc : CallExt call) {o : Oper} {v : Value} {f : Foot} (e : aoper E call T o σ = some (v, σ', f)) :
    ASExt σ σ' ∧ ∀ b, ¬ writes f σ σ' b → b < σ'.next → σ'.get b = σ.get b := by
  have old : ∀ {f : Foot} {σ' : AS} (b : Nat), ¬ writes f σ σ' b → b < σ'.next → b < σ.next := by
    intro f σ' b h1 h2
    rcases Nat.lt_or_ge b σ.next with h3 | h3
    · exact h3
    · exact absurd (.inl ⟨h3, h2⟩) h1
  unfold aoper at e
  split at e
  · rename_i n args _
    split at e
    · rename_i v0 σ1 hcall
      simp only [Option.some.injEq, Prod.mk.injEq] at e
      obtain ⟨rfl, rfl, rfl⟩ := e
      have h1 := hc.ext _ _ _ _ _ hcall
      refine ⟨⟨h1.next, fun b q => List.mem_append_right _ q, ?_, h1.wf⟩, ?_⟩
      · intro b p q
        exact h1.keep b p (fun q2 => q (List.mem_append_left _ q2))
      · intro b p q
        have hb : b < σ.next := old b p q
        refine h1.keep b hb fun q2 => p (.inr (.inr ⟨?_, hb⟩))
        exact memB_iff.2 (mem_olds.2 ⟨q2, hb⟩)
    · cases e
  · split at e
    · simp only [Option.some.injEq, Prod.mk.injEq] at e
      obtain ⟨rfl, rfl, rfl⟩ := e
      exact ⟨.refl σ, fun _ _ _ => rfl⟩
    · split at e
      · simp only [Option.some.injEq, Prod.mk.injEq] at e
        obtain ⟨rfl, rfl, rfl⟩ := e
        refine ⟨.alloc σ _, fun b p q => ?_⟩
        have := old b p q
        rw [AS.get_alloc]; unfold upd; rw [if_neg (by omega)]
      · split at e
        · split at e
          · simp only [Option.map_eq_some_iff, Prod.mk.injEq] at e
            obtain ⟨_, _, rfl, rfl, rfl⟩ := e
            exact ⟨.refl σ, fun _ _ _ => rfl⟩
          · cases e
        · split at e
          · simp only [Option.map_eq_some_iff, Prod.mk.injEq] at e
            obtain ⟨σ1, q, rfl, rfl, rfl⟩ := e
            unfold astore at q
            simp only [cond_eq_ite] at q
            split at q
            · split at q
              · obtain ⟨_, c, gr, h2, _, _, h5⟩ := AS.write_some q
                rw [h5]
                refine ⟨.put _ (by rw [h2]; simp), fun b p _ => ?_⟩
                rw [AS.get_put]; unfold upd
                rw [if_neg]
                intro hb
                exact p (.inr (.inl (by rw [hb])))
              · cases q
            · cases q
          · cases e
        · simp only [Option.map_eq_some_iff, Prod.mk.injEq] at e
          obtain ⟨_, _, rfl, rfl, rfl⟩ := e
          exact ⟨.refl σ, fun _ _ _ => rfl⟩
        · simp only [Option.map_eq_some_iff, Prod.mk.injEq] at e
          obtain ⟨⟨v1, σ1, l⟩, q, rfl, rfl, rfl⟩ := e
          have hs := (amem_shape q).ext
          have hb0 := hs.keep
          refine ⟨⟨hs.next, fun b q => List.mem_append_right _ q, fun b p q2 => hs.keep b p (fun q3 => q2 (List.mem_append_left _ q3)), hs.wf⟩, fun b p q2 => ?_⟩
          have hb : b < σ.next := old b p q2
          have hl : loudAt b (amemFoot E T o.op σ σ1 (olds σ.next σ1.ws)) = false := by
            cases h : loudAt b (amemFoot E T o.op σ σ1 (olds σ.next σ1.ws)) with
            | false => rfl
            | true => exact absurd (.inr (.inr ⟨h, hb⟩)) p
          have quiet : memB b (olds σ.next σ1.ws) = false → σ1.get b = σ.get b := by
            intro hm
            refine hs.keep b hb fun q3 => ?_
            rw [memB_iff.2 (mem_olds.2 ⟨q3, hb⟩)] at hm; cases hm
          rcases amemFoot_cases E T o.op σ σ1 (olds σ.next σ1.ws) with h | ⟨_, _, _, _, h⟩ | ⟨t, x, i, b, k, ho, h1, h2, h3, h⟩ | ⟨t, m, k0, b, k, ho, h1, h2, h3, h⟩
          · rw [h] at hl; exact quiet hl
          · rw [h] at hl; exact quiet hl
          · rw [ho] at q
            simp only [amem, h1, h2, Option.map_eq_some_iff, Prod.mk.injEq] at q
            obtain ⟨_, _, _, rfl, rfl⟩ := q
            rfl
          · rw [h] at hl; cases hl
end
end
end Go.VAbs

/-! The abstract machine, part 17: an operation hangs on its operands alone; one operation, wherever it comes up. -/
namespace Go.VAbs
open Go
set_option linter.unusedVariables false
noncomputable section
set_option linter.unusedSimpArgs false

section
variable {E : Env} {T T' : ATmps}

theorem evs_congr : ∀ {l : List Operand}, (∀ x ∈ l, ev E T x = ev E T' x) → evs E T l = evs E T' l
  | [], _ => rfl
  | x :: r, h => by simp only [evs]; rw [h x (by simp), evs_congr (fun y hy => h y (by simp [hy]))]
theorem evParts_congr : ∀ {l : List (Nat × Operand)}, (∀ p ∈ l, ev E T p.2 = ev E T' p.2) → evParts E T l = evParts E T' l
  | [], _ => rfl
  | x :: r, h => by simp only [evParts]; rw [h x (by simp), evParts_congr (fun y hy => h y (by simp [hy]))]
theorem evOpt_congr {x : Option Operand} (h : ∀ y, x = some y → ev E T y = ev E T' y) : evOpt E T x = evOpt E T' x := by
  cases x with
  | none => rfl
  | some y => simp only [evOpt]; rw [h y rfl]

theorem aoper_congr (call : ACall) {o : Oper} (σ : AS) (h : ∀ x ∈ o.op.operands, ev E T x = ev E T' x) : aoper E call T o σ = aoper E call T' o σ := by
  unfold aoper
  cases ho : o.op with
  | move x => rw [ho] at h; have hx := h x (by simp [Op.operands]); simp only [acallee, apure, hx, aalloc, amem, amemFoot]
  | assign x => rw [ho] at h; have hx := h x (by simp [Op.operands]); simp only [acallee, apure, hx, aalloc, amem, amemFoot]
  | pick c x y =>
    rw [ho] at h
    have h1 := h c (by simp [Op.operands]); have h2 := h x (by simp [Op.operands]); have h3 := h y (by simp [Op.operands])
    simp only [acallee, apure, h1, h2, h3, aalloc, amem, amemFoot]
  | alloc t => simp only [acallee, apure, aalloc, amem, amemFoot]
  | box t x => rw [ho] at h; have hx := h x (by simp [Op.operands]); simp only [acallee, apure, hx, aalloc, amem, amemFoot]
  | build t ps =>
    rw [ho] at h
    have hx : evParts E T ps.toList = evParts E T' ps.toList := evParts_congr fun p hp => h p.2 (by simp only [Op.operands, List.mem_toArray, List.mem_map]; exact ⟨p, hp, rfl⟩)
    simp only [acallee, apure, hx, aalloc, amem, amemFoot]
  | buildSlice t n ps =>
    rw [ho] at h
    have hx : evParts E T ps.toList = evParts E T' ps.toList := evParts_congr fun p hp => h p.2 (by simp only [Op.operands, List.mem_toArray, List.mem_map]; exact ⟨p, hp, rfl⟩)
    simp only [acallee, apure, hx, aalloc, amem, amemFoot]
  | insert t m k v =>
    rw [ho] at h
    have h1 := h m (by simp [Op.operands]); have h2 := h k (by simp [Op.operands]); have h3 := h v (by simp [Op.operands])
    simp only [acallee, apure, h1, h2, h3, aalloc, amem, amemFoot]
  | load t x => rw [ho] at h; have hx := h x (by simp [Op.operands]); simp only [acallee, apure, hx, aalloc, amem, amemFoot]
  | store t x y =>
    rw [ho] at h
    have h1 := h x (by simp [Op.operands]); have h2 := h y (by simp [Op.operands])
    simp only [acallee, apure, h1, h2, aalloc, amem, amemFoot]
  | ready g => simp only [acallee, apure, aalloc, amem, amemFoot]
  | waits g => simp only [acallee, apure, aalloc, amem, amemFoot]
  | nilCheck x => rw [ho] at h; have hx := h x (by simp [Op.operands]); simp only [acallee, apure, hx, aalloc, amem, amemFoot]
  | binOp op t x y yt =>
    rw [ho] at h
    have h1 := h x (by simp [Op.operands]); have h2 := h y (by simp [Op.operands])
    simp only [acallee, apure, h1, h2, aalloc, amem, amemFoot]
  | unOp op t x => rw [ho] at h; have hx := h x (by simp [Op.operands]); simp only [acallee, apure, hx, aalloc, amem, amemFoot]
  | convert s d x => rw [ho] at h; have hx := h x (by simp [Op.operands]); simp only [acallee, apure, hx, aalloc, amem, amemFoot]
  | sliceToArrayPointer d x => simp only [acallee, apure, aalloc, amem, amemFoot]
  | makeInterface t x => rw [ho] at h; have hx := h x (by simp [Op.operands]); simp only [acallee, apure, hx, aalloc, amem, amemFoot]
  | makeFunc fn p q =>
    rw [ho] at h
    have h1 : evs E T p.toList = evs E T' p.toList := evs_congr fun x hx => h x (by simp only [Op.operands, Array.mem_append]; exact .inl (Array.mem_toList_iff.1 hx))
    have h2 : evs E T q.toList = evs E T' q.toList := evs_congr fun x hx => h x (by simp only [Op.operands, Array.mem_append]; exact .inr (Array.mem_toList_iff.1 hx))
    simp only [acallee, apure, h1, h2, aalloc, amem, amemFoot]
  | makeMap t r =>
    rw [ho] at h
    have hx : evOpt E T r = evOpt E T' r := evOpt_congr fun y hy => h y (by simp [Op.operands, hy])
    simp only [acallee, apure, hx, aalloc, amem, amemFoot]
  | makeChan t x => simp only [acallee, apure, aalloc, amem, amemFoot]
  | makeSlice t x y =>
    rw [ho] at h
    have h1 := h x (by simp [Op.operands]); have h2 := h y (by simp [Op.operands])
    simp only [acallee, apure, h1, h2, aalloc, amem, amemFoot]
  | slice t x l hi m =>
    rw [ho] at h
    have h1 := h x (by simp [Op.operands])
    have h2 : evOpt E T l = evOpt E T' l := evOpt_congr fun y hy => h y (by simp [Op.operands, hy])
    have h3 : evOpt E T hi = evOpt E T' hi := evOpt_congr fun y hy => h y (by simp [Op.operands, hy])
    have h4 : evOpt E T m = evOpt E T' m := evOpt_congr fun y hy => h y (by simp [Op.operands, hy])
    simp only [acallee, apure, h1, h2, h3, h4, aalloc, amem, aslice2]
  | fieldAddr t x f => rw [ho] at h; have hx := h x (by simp [Op.operands]); simp only [acallee, apure, hx, aalloc, amem, amemFoot]
  | field t x f => rw [ho] at h; have hx := h x (by simp [Op.operands]); simp only [acallee, apure, hx, aalloc, amem, amemFoot]
  | indexAddr t x y =>
    rw [ho] at h
    have h1 := h x (by simp [Op.operands]); have h2 := h y (by simp [Op.operands])
    simp only [acallee, apure, h1, h2, aalloc, amem, amemFoot]
  | index t x y =>
    rw [ho] at h
    have h1 := h x (by simp [Op.operands]); have h2 := h y (by simp [Op.operands])
    simp only [acallee, apure, h1, h2, aalloc, amem, amemFoot]
  | lookup t x y ok =>
    rw [ho] at h
    have h1 := h x (by simp [Op.operands]); have h2 := h y (by simp [Op.operands])
    cases ok <;> simp only [acallee, apure, h1, h2, aalloc, amem, amemFoot]
  | mapUpdate t m k v =>
    rw [ho] at h
    have h1 := h m (by simp [Op.operands]); have h2 := h k (by simp [Op.operands]); have h3 := h v (by simp [Op.operands])
    simp only [acallee, apure, h1, h2, h3, aalloc, amem, amemFoot]
  | mapEntry t m k =>
    rw [ho] at h
    have h1 := h m (by simp [Op.operands]); have h2 := h k (by simp [Op.operands])
    simp only [acallee, apure, h1, h2, aalloc, amem, amemFoot]
  | entryStore t m s v =>
    rw [ho] at h
    have h1 := h m (by simp [Op.operands]); have h2 := h s (by simp [Op.operands]); have h3 := h v (by simp [Op.operands])
    simp only [acallee, apure, h1, h2, h3, aalloc, amem, amemFoot]
  | range t x => rw [ho] at h; have hx := h x (by simp [Op.operands]); simp only [acallee, apure, hx, aalloc, amem, amemFoot]
  | next x s => rw [ho] at h; have hx := h x (by simp [Op.operands]); cases s <;> simp only [acallee, apure, hx, aalloc, amem, amemFoot]
  | entry x => rw [ho] at h; have hx := h x (by simp [Op.operands]); simp only [acallee, apure, hx, aalloc, amem, amemFoot]
  | typeAssert x t u ok => simp only [acallee, apure, aalloc, amem, amemFoot]
  | extract x i => rw [ho] at h; have hx := h x (by simp [Op.operands]); simp only [acallee, apure, hx, aalloc, amem, amemFoot]
  | call c =>
    rw [ho] at h
    obtain ⟨callee, args, ts⟩ := c
    have h1 : evs E T args.toList = evs E T' args.toList := evs_congr fun x hx => h x (by simp only [Op.operands, Call.operands, Array.mem_append]; exact .inr (Array.mem_toList_iff.1 hx))
    cases callee with
    | value f =>
      have h2 := h f (by simp [Op.operands, Call.operands])
      simp only [acallee, apure, h1, h2, aalloc, amem, amemFoot]
    | invoke r m => simp only [acallee, apure, h1, aalloc, amem, amemFoot]
    | builtin b => simp only [acallee, apure, h1, aalloc, amem, amemFoot]
  | go c => simp only [acallee, apure, aalloc, amem, amemFoot]
  | defer c => simp only [acallee, apure, aalloc, amem, amemFoot]
  | panic x => simp only [acallee, apure, aalloc, amem, amemFoot]
  | send x y => simp only [acallee, apure, aalloc, amem, amemFoot]
  | recv t x ok => simp only [acallee, apure, aalloc, amem, amemFoot]
  | select cs b => simp only [acallee, apure, aalloc, amem, amemFoot]
end

/-- What a call of function n does, as the abstract machine says it. -/
def CallSim (E : Env) (n : Nat) (args : List Value) (σ : AS) (v : Value) (σ' : AS) : Prop :=
  ∀ (μ : Mu) (w : World) (args' : Array Value), GlOk E μ → Rel μ σ.get w → (∀ b, σ.next ≤ b → b < σ'.next → μ b = none) → VRels μ args.toArray args' →
    Calls E.P n args' w (fun e w' => ∃ v', e = .returned v' ∧ Sim μ σ.get w σ.next σ'.next σ'.get w' (fun μ' => VRel μ' v v'))

structure CallOk (E : Env) (call : ACall) : Prop where
  ext : ∀ n args σ v σ', call n args σ = some (v, σ') → ASExt σ σ'
  sim : ∀ n args σ v σ', (∀ b, σ.next ≤ b → σ.get b = none) → call n args σ = some (v, σ') → CallSim E n args σ v σ'
  enter : ∀ n args σ r, call n args σ = some r → ∃ fn, E.P.funcs[n]? = some fn ∧ fn.body.isNone = false ∧ (fn.name == "runtime.NumGoroutine") = false

theorem veqN_eq : ∀ (n : Nat) (v w : Value), veqN n v w = true → v = w := by
  have base : ∀ n v w, (∀ m, m < n → ∀ v w, veqN m v w = true → v = w) → veqN n v w = true → v = w := by
    intro n v w ih h
    unfold veqN at h
    split at h
    · rename_i k a l b
      rw [cond_eq_ite] at h
      split at h
      · rename_i hk; rw [of_decide_eq_true hk, of_decide_eq_true h]
      · cases h
    · rw [of_decide_eq_true h]
    · rename_i a b
      have := of_decide_eq_true h
      congr 1
      cases a; cases b
      simp only [ByteArray.mk.injEq]
      exact Array.toList_inj.1 this
    · rename_i n a b
      have hg : ∀ (l m : List Value), veqN.go n l m = true → l = m := by
        intro l
        induction l with
        | nil => intro m hm; cases m with
          | nil => rfl
          | cons y s => simp [veqN.go] at hm
        | cons x r ihl => intro m hm; cases m with
          | nil => simp [veqN.go] at hm
          | cons y s =>
            simp only [veqN.go, cond_eq_ite] at hm
            split at hm
            · rename_i hx; rw [ih n (by omega) x y hx, ihl s hm]
            · cases hm
      congr 1
      exact Array.toList_inj.1 (hg _ _ h)
    · cases h
  intro n
  induction n using Nat.strongRecOn with
  | _ n ih => exact fun v w => base n v w ih
theorem veq_eq {v w : Value} (h : veq v w = true) : v = w := veqN_eq 3 v w h

/-- What is found here is found there. -/
def lookExt (E : Env) (t : TypeId) (k : Value) (o o' : Option AObj) : Prop := ∀ v, lookAt E t k o = some v → lookAt E t k o' = some v
theorem lookExt.refl (E : Env) (t : TypeId) (k : Value) (o : Option AObj) : lookExt E t k o o := fun _ h => h
theorem lookExt.trans {E : Env} {t : TypeId} {k : Value} {a b c : Option AObj} (h : lookExt E t k a b) (h' : lookExt E t k b c) : lookExt E t k a c := fun v q => h' v (h v q)
theorem entSafe_ext {E : Env} {t : TypeId} {k : Value} {o o' : Option AObj} (h : entSafe E t k o o' = true) : lookExt E t k o o' := by
  unfold entSafe at h
  split at h
  · rename_i v w h1 h2
    intro u hu
    rw [h1] at hu; cases hu
    rw [h2, veq_eq h]
  · cases h
theorem alookup_lookAt (E : Env) (σ : AS) (t : TypeId) (b : Nat) (k : Value) : alookup E σ t (.map (some b)) k false = lookAt E t k (σ.get b) := by
  unfold alookup lookAt
  cases E.und t with
  | none => rfl
  | some d =>
    cases d <;> rfl

/-- What the heap must still be as it was in the order of the text. -/
def accOk (E : Env) (f : Foot) (μ : Mu) (g : AH) (σ : AS) : Prop :=
  match f with
  | .pure | .alloc _ => True
  | .rd b | .wr b => μ b ≠ none → g b = σ.get b
  | .all _ | .ent _ _ _ => ∀ b, b < σ.next → μ b ≠ none → g b = σ.get b
  | .look b t k => μ b ≠ none → lookExt E t k (σ.get b) (g b)
/-- The heap behind it. -/
noncomputable def delta (f : Foot) (σ σ' : AS) (g : AH) : AH := fun b => open Classical in if writes f σ σ' b then σ'.get b else g b

theorem delta_eq {f : Foot} {σ σ' : AS} {g : AH} (h : ∀ b, g b = σ.get b) (k : ∀ b, ¬ writes f σ σ' b → σ'.get b = σ.get b) : delta f σ σ' g = σ'.get := by
  funext b
  unfold delta
  split
  · rfl
  · rename_i hw; rw [h b, k b hw]

section
variable {E : Env} {μ : Mu} {T : ATmps} {a : Act} {g : AH} {w w' : World} {σ σ' : AS}

/-- From what is known of the text's order to what is there: whatever the step does not know stays. -/
theorem Sim.lift (h : Rel μ g w) {lo hi : Nat} {gk gk' : AH} {K : Mu → Prop} {g' : AH} (hagree : ∀ b, μ b ≠ none → b < lo → g b = gk b) (hfree : ∀ b, lo ≤ b → b < hi → μ b = none) (hkn : ∀ b, lo ≤ b → gk b = none)
    (hg1 : ∀ b, b < hi → μ b ≠ none ∨ lo ≤ b → g' b = gk' b) (hg2 : ∀ b, hi ≤ b → g' b = g b) (hlh : lo ≤ hi)
    (s : Sim μ gk w lo hi gk' w' K) : Sim μ g w lo hi g' w' K := by
  obtain ⟨μ', f, r, n, k⟩ := s
  have dom : ∀ b, μ b ≠ none → b < lo ∨ hi ≤ b := by
    intro b hb
    rcases Nat.lt_or_ge b lo with h1 | h1
    · exact .inl h1
    · rcases Nat.lt_or_ge b hi with h2 | h2
      · exact absurd (hfree b h1 h2) hb
      · exact .inr h2
  have ownk : ∀ b l, μ b = some l → Own gk b → Own g b := by
    intro b l hb ⟨o, h1, h2⟩
    rcases Nat.lt_or_ge b lo with h3 | h3
    · exact ⟨o, by rw [hagree b (by rw [hb]; simp) h3]; exact h1, h2⟩
    · rw [hkn b h3] at h1; cases h1
  have mu' : ∀ b l, μ' b = some l → (μ b = some l) ∨ (μ b = none ∧ lo ≤ b ∧ b < hi) := by
    intro b l hb
    cases hm : μ b with
    | none => exact .inr ⟨rfl, n b hm (by rw [hb]; simp)⟩
    | some l0 => have := f.ext b l0 hm; rw [hb] at this; cases this; exact .inl rfl
  -- a block of later operations is left alone
  have later : ∀ b l, μ b = some l → hi ≤ b → Alive g b → w'.heap[l.blk]? = w.heap[l.blk]? := by
    intro b l hb hhi hal
    refine f.keep l.blk (h.size b l hb) ?_
    intro b0 l0 hb0 he ho
    have ho' := ownk b0 l0 hb0 ho
    have hne : b0 ≠ b := by
      rintro rfl
      obtain ⟨o, h1, _⟩ := ho
      rw [hkn b0 (by omega)] at h1; cases h1
    exact h.inj b0 b l0 l hb0 hb hne he ho' hal
  have look1 : ∀ b l, μ b = some l → b < lo → g' b = gk' b := fun b l hb hlt => hg1 b (by omega) (.inl (by rw [hb]; simp))
  refine ⟨μ', ⟨f.os, f.tape, f.output, f.size, ?_, f.ext, ?_, ?_, ?_⟩, ⟨r.size, ?_, ?_⟩, n, k⟩
  · intro c hc hno
    exact f.keep c hc fun b l hb hl ho => hno b l hb hl (ownk b l hb ho)
  · intro b l h1 h2
    rcases f.fresh b l h1 h2 with h3 | ⟨b0, l0, p, q, o⟩
    · exact .inl h3
    · exact .inr ⟨b0, l0, p, q, ownk b0 l0 p o⟩
  · intro b l hb ho
    rcases dom b (by rw [hb]; simp) with h1 | h1
    · have : Own gk' b := by obtain ⟨o, p, q⟩ := ho; exact ⟨o, by rw [← look1 b l hb h1]; exact p, q⟩
      exact ownk b l hb (f.own b l hb this)
    · obtain ⟨o, p, q⟩ := ho; exact ⟨o, by rw [← hg2 b h1]; exact p, q⟩
  · intro b l hb ho
    rcases dom b (by rw [hb]; simp) with h1 | h1
    · have : Alive gk' b := by obtain ⟨o, p, q⟩ := ho; exact ⟨o, by rw [← look1 b l hb h1]; exact p, q⟩
      obtain ⟨o, p, q⟩ := f.alive b l hb this
      exact ⟨o, by rw [hagree b (by rw [hb]; simp) h1]; exact p, q⟩
    · obtain ⟨o, p, q⟩ := ho; exact ⟨o, by rw [← hg2 b h1]; exact p, q⟩
  · intro b l o hb ho
    rcases mu' b l hb with h1 | ⟨h1, h2, h3⟩
    · rcases dom b (by rw [h1]; simp) with h4 | h4
      · rw [look1 b l h1 h4] at ho; exact r.obj b l o hb ho
      · rw [hg2 b h4] at ho
        cases o with
        | dead => trivial
        | _ =>
          rw [later b l h1 h4 ⟨_, ho, rfl⟩]
          exact (h.obj b l _ h1 ho).mono f.ext
    · rw [hg1 b h3 (.inr h2)] at ho; exact r.obj b l o hb ho
  · intro b c l m hb hc hne he ho ha
    -- the four cases
    have known : ∀ x y, μ' x = some y → x < hi → g' x = gk' x := by
      intro x y hx hlt
      rcases mu' x y hx with h1 | ⟨_, h2, h3⟩
      · exact hg1 x hlt (.inl (by rw [h1]; simp))
      · exact hg1 x h3 (.inr h2)
    rcases Nat.lt_or_ge b hi with hb1 | hb1
    · have ho' : Own gk' b := by obtain ⟨o, p, q⟩ := ho; exact ⟨o, by rw [← known b l hb hb1]; exact p, q⟩
      rcases Nat.lt_or_ge c hi with hc1 | hc1
      · have ha' : Alive gk' c := by obtain ⟨o, p, q⟩ := ha; exact ⟨o, by rw [← known c m hc hc1]; exact p, q⟩
        exact r.inj b c l m hb hc hne he ho' ha'
      · have ha' : Alive g c := by obtain ⟨o, p, q⟩ := ha; exact ⟨o, by rw [← hg2 c hc1]; exact p, q⟩
        rcases mu' c m hc with hc2 | ⟨_, _, q⟩
        · rcases mu' b l hb with hb2 | ⟨hb2, _, _⟩
          · exact h.inj b c l m hb2 hc2 hne he (ownk b l hb2 (f.own b l hb2 ho')) ha'
          · rcases f.fresh b l hb2 hb with q | ⟨b0, l0, p1, p2, p3⟩
            · have := h.size c m hc2; omega
            · have hne0 : b0 ≠ c := by
                rintro rfl
                obtain ⟨o, x1, _⟩ := p3
                rw [hkn b0 (by omega)] at x1; cases x1
              exact h.inj b0 c l0 m p1 hc2 hne0 (p2.trans he) (ownk b0 l0 p1 p3) ha'
        · omega
    · have ho' : Own g b := by obtain ⟨o, p, q⟩ := ho; exact ⟨o, by rw [← hg2 b hb1]; exact p, q⟩
      rcases mu' b l hb with hb2 | ⟨_, _, q⟩
      · rcases Nat.lt_or_ge c hi with hc1 | hc1
        · have ha' : Alive gk' c := by obtain ⟨o, p, q⟩ := ha; exact ⟨o, by rw [← known c m hc hc1]; exact p, q⟩
          rcases mu' c m hc with hc2 | ⟨hc2, _, _⟩
          · have hal : Alive g c := by
              obtain ⟨o, p, q⟩ := f.alive c m hc2 ha'
              rcases dom c (by rw [hc2]; simp) with h4 | h4
              · exact ⟨o, by rw [hagree c (by rw [hc2]; simp) h4]; exact p, q⟩
              · omega
            exact h.inj b c l m hb2 hc2 hne he ho' hal
          · rcases f.fresh c m hc2 hc with q | ⟨b0, l0, p1, p2, p3⟩
            · have := h.size b l hb2; omega
            · have hne0 : b ≠ b0 := by
                rintro rfl
                obtain ⟨o, x1, _⟩ := p3
                rw [hkn b (by omega)] at x1; cases x1
              exact h.inj b b0 l l0 hb2 p1 hne0 (he.trans p2.symm) ho' (ownk b0 l0 p1 p3).alive
        · have ha' : Alive g c := by obtain ⟨o, p, q⟩ := ha; exact ⟨o, by rw [← hg2 c hc1]; exact p, q⟩
          rcases mu' c m hc with hc2 | ⟨_, _, q⟩
          · exact h.inj b c l m hb2 hc2 hne he ho' ha'
          · omega
      · omega
end
end
end Go.VAbs

/-! The abstract machine, part 18: one operation, wherever it comes up. -/
namespace Go.VAbs
open Go
set_option linter.unusedVariables false
noncomputable section
set_option linter.unusedSimpArgs false

section
variable {E : Env} {μ : Mu} {T : ATmps} {a : Act} {g : AH} {w w' : World} {σ σ' : AS}

theorem Rel.known (h : Rel μ g w) (wf : ∀ b, σ.next ≤ b → σ.get b = none) (hag : ∀ b, b < σ.next → μ b ≠ none → g b = σ.get b) : Rel μ σ.get w := by
  have low : ∀ b o, σ.get b = some o → b < σ.next := by
    intro b o hb
    rcases Nat.lt_or_ge b σ.next with h1 | h1
    · exact h1
    · rw [wf b h1] at hb; cases hb
  refine ⟨h.size, ?_, ?_⟩
  · intro b l o hb ho
    exact h.obj b l o hb (by rw [hag b (low b o ho) (by rw [hb]; simp)]; exact ho)
  · intro b b' l l' hb hb' hne he ⟨o, h1, h2⟩ ⟨o', h3, h4⟩
    exact h.inj b b' l l' hb hb' hne he ⟨o, by rw [hag b (low b o h1) (by rw [hb]; simp)]; exact h1, h2⟩ ⟨o', by rw [hag b' (low b' o' h3) (by rw [hb']; simp)]; exact h3, h4⟩

theorem acallee_some {o : Oper} {n : Nat} {args : List Value} (hG : GlOk E μ) (hT : TRel μ T a.tmps) (e : acallee E T o.op = some (n, args)) :
    ∃ args' : Array Value, VRels μ args.toArray args' ∧ ∀ (w : World), (∃ fn, E.P.funcs[n]? = some fn ∧ fn.body.isNone = false ∧ (fn.name == "runtime.NumGoroutine") = false) → (execOp a.eval o).run E.P w = .ok (.enter n args') w := by
  unfold acallee at e
  split at e
  · rename_i c ho
    obtain ⟨callee, cargs, ts⟩ := c
    cases callee with
    | value f =>
      simp only at e
      split at e
      · rename_i m fa fb l hf hl
        simp only [Option.some.injEq, Prod.mk.injEq] at e
        obtain ⟨rfl, rfl⟩ := e
        have hr := ev_sim (a := a) hG hT hf
        have hl' := evs_sim (a := a) hG hT hl
        generalize hu : a.eval f = u at hr
        cases hr with
        | flat hh => simp [Go.VAbs.flat] at hh
        | @func _ _ fa' _ fb' q1 q2 q3 q4 =>
          refine ⟨fa' ++ cargs.map a.eval ++ fb', ?_, ?_⟩
          · have m2 : (cargs.toList.map a.eval).toArray = cargs.map a.eval := by apply Array.toList_inj.1; simp
            rw [m2] at hl'
            have := VRels.append (VRels.append (⟨q1, q3⟩ : VRels μ fa fa') hl') (⟨q2, q4⟩ : VRels μ fb fb')
            have e2 : (fa.toList ++ l ++ fb.toList).toArray = fa ++ l.toArray ++ fb := by apply Array.toList_inj.1; simp
            rw [e2]; exact this
          · rintro w ⟨fn, h1, h2, h3⟩
            unfold execOp
            rw [ho]
            simp only [resolve, hu, Deferred.ofValue, Sem.run_bind, Sem.run_pure, Result.andThen_ok, invoke, callFunc, run_program, h1, h2, h3, Bool.false_eq_true, if_false]
      · cases e
    | invoke r m => simp at e
    | builtin b => simp at e
  · cases e

theorem delta_pure (f : Foot) (hf : f = .pure ∨ ∃ b, f = .rd b) (σ : AS) (g : AH) : delta f σ σ g = g := by
  funext b
  unfold delta
  rw [if_neg]
  rintro (h | h | h)
  · omega
  · rcases hf with rfl | ⟨_, rfl⟩ <;> cases h
  · rcases hf with rfl | ⟨_, rfl⟩ <;> cases h.1
theorem delta_look (b : Nat) (t : TypeId) (k : Value) (σ : AS) (g : AH) : delta (.look b t k) σ σ g = g := by
  funext b
  unfold delta
  rw [if_neg]
  rintro (h | h | h)
  · omega
  · cases h
  · cases h.1

theorem aoper_step (hE : EnvOk E) {call : ACall} (hc : CallOk E call) (hG : GlOk E μ) (hT : TRel μ T a.tmps) (h : Rel μ g w) (wf : ∀ b, σ.next ≤ b → σ.get b = none) (hfree : ∀ b, σ.next ≤ b → b < σ'.next → μ b = none)
    {o : Oper} {v : Value} {f : Foot} (e : aoper E call T o σ = some (v, σ', f)) (hacc : accOk E f μ g σ) {K : Act → World → Prop} {Q : Exit → Act → World → Prop}
    (hK : ∀ v' w', Sim μ g w σ.next σ'.next (delta f σ σ' g) w' (fun μ' => VRel μ' v v') → K (a.put o.dst v') w') : o.wp E.P a w K Q := by
  have hext := aoper_ext (⟨hc.ext⟩ : CallExt call) e
  unfold aoper at e
  split at e
  · rename_i n args hcal
    split at e
    · rename_i v0 σ1 hcall
      simp only [Option.some.injEq, Prod.mk.injEq] at e
      obtain ⟨rfl, rfl, rfl⟩ := e
      obtain ⟨args', k1, k2⟩ := acallee_some hG hT hcal
      have hrun := k2 w (hc.enter _ _ _ _ hcall)
      have hsim0 : CallSim E n args { σ with ws := [] } v0 σ1 := hc.sim n args _ v0 σ1 wf hcall
      have hsim := hsim0 μ w args' hG (h.known wf hacc) hfree k1
      unfold Oper.wp
      rw [hrun, Oper.upon_enter]
      refine hsim.mono ?_
      rintro ex w' ⟨v', rfl, hs⟩
      refine hK v' w' (hs.lift h (fun b hb hlt => hacc b hlt hb) hfree wf ?_ ?_ hext.1.next)
      · intro b hb hor
        unfold delta
        split
        · rfl
        · rename_i hw
          have hlt : b < σ.next := by
            rcases Nat.lt_or_ge b σ.next with q | q
            · exact q
            · exact absurd (.inl ⟨q, hb⟩) hw
          have hμ : μ b ≠ none := by
            rcases hor with q | q
            · exact q
            · omega
          rw [hacc b hlt hμ]
          exact (hext.2 b hw hb).symm
      · intro b hb
        unfold delta
        rw [if_neg]
        have hn : σ.next ≤ σ1.next := hext.1.next
        have hb' : σ1.next ≤ b := hb
        rintro (q | q | q)
        · have : b < σ1.next := q.2; omega
        · cases q
        · omega
    · cases e
  · split at e
    · rename_i v0 hp
      simp only [Option.some.injEq, Prod.mk.injEq] at e
      obtain ⟨rfl, rfl, rfl⟩ := e
      obtain ⟨v', k1, k2⟩ := apure_sim hE hG hT hp w
      unfold Oper.wp
      rw [k1, Oper.upon_value]
      refine hK v' w ?_
      rw [delta_pure _ (.inl rfl)]
      exact Sim.pure h _ _ k2
    · split at e
      · rename_i obj mk hal
        simp only [Option.some.injEq, Prod.mk.injEq] at e
        obtain ⟨rfl, rfl, rfl⟩ := e
        have hn : μ σ.next = none := hfree σ.next (Nat.le_refl _) (by simp [AS.alloc])
        obtain ⟨v', w', k1, k2⟩ := aalloc_sim hE hG hT h hn hal
        unfold Oper.wp
        rw [k1, Oper.upon_value]
        refine hK v' w' ?_
        have : delta (.alloc σ.next) σ (σ.alloc obj) g = upd g σ.next obj := by
          funext b
          unfold delta upd
          by_cases q : b = σ.next
          · rw [if_pos (.inl ⟨by omega, by simp [AS.alloc]; omega⟩), if_pos q, AS.get_alloc]
            unfold upd; rw [if_pos q]
          · rw [if_neg, if_neg q]
            rintro (r | r | r)
            · have : b < σ.next + 1 := r.2; omega
            · cases r
            · cases r.1
        rw [this]
        exact k2
      · split at e
        · rename_i t x ho
          split at e
          · rename_i ad hx
            simp only [Option.map_eq_some_iff, Prod.mk.injEq] at e
            obtain ⟨v0, q, rfl, rfl, rfl⟩ := e
            have hr := ev_sim (a := a) hG hT hx
            unfold Oper.wp execOp
            rw [ho]
            dsimp only
            generalize a.eval x = u at hr ⊢
            cases hr with
            | flat hf => simp [Go.VAbs.flat] at hf
            | @ptr _ ad' hA =>
              obtain ⟨v', k1, k2⟩ := aload_sim hE h (hacc (by obtain ⟨l, h1, _⟩ := hA; rw [h1]; simp)) hA q
              have : (do pure (Next.value (← Instr.loadAt t (.pointer (some ad')))) : Sem Next).run E.P w = .ok (.value v') w := by
                simp only [Instr.loadAt, Instr.sureAddr, Sem.run_bind, Sem.run_pure, Result.andThen_ok, k1]
              rw [this, Oper.upon_value]
              refine hK v' w ?_
              rw [delta_pure _ (.inr ⟨_, rfl⟩)]
              exact Sim.pure h _ _ k2
          · cases e
        · rename_i t x y ho
          split at e
          · rename_i ad v0 hx hy
            simp only [Option.map_eq_some_iff, Prod.mk.injEq] at e
            obtain ⟨σ1, q, rfl, rfl, rfl⟩ := e
            have hr := ev_sim (a := a) hG hT hx
            have hv := ev_sim (a := a) hG hT hy
            unfold Oper.wp execOp
            rw [ho]
            dsimp only
            generalize a.eval x = u at hr ⊢
            cases hr with
            | flat hf => simp [Go.VAbs.flat] at hf
            | @ptr _ ad' hA =>
              obtain ⟨o', w', k1, k2, k3⟩ := astore_sim hE h (hacc (by obtain ⟨l, h1, _⟩ := hA; rw [h1]; simp)) hA hv q
              have : (do Instr.storeAt t (.pointer (some ad')) (a.eval y); pure Next.skip : Sem Next).run E.P w = .ok .skip w' := by
                simp only [Instr.storeAt, Instr.sureAddr, Sem.run_bind, Sem.run_pure, Result.andThen_ok, k2]
              rw [this, Oper.upon_skip]
              refine hK undef w' ?_
              have hd : delta (.wr ad.block) σ σ1 g = upd g ad.block o' := by
                rw [k1]
                funext b
                unfold delta upd
                by_cases qq : b = ad.block
                · rw [if_pos (.inr (.inl (by rw [qq]))), if_pos qq, AS.get_put]
                  unfold upd; rw [if_pos qq]
                · rw [if_neg, if_neg qq]
                  rintro (r | r | r)
                  · have : b < σ.next := r.2; omega
                  · cases r; exact qq rfl
                  · cases r.1
              rw [hd]
              exact (k3 _ _).mono (Nat.le_refl _) (Nat.le_refl _) (fun μ' _ _ => undef_flat μ')
          · cases e
        · rename_i t x lo hi mx ho
          simp only [Option.map_eq_some_iff, Prod.mk.injEq] at e
          obtain ⟨⟨v0, b⟩, q, rfl, rfl, rfl⟩ := e
          obtain ⟨v', k1, k2⟩ := aslice2_sim (a := a) hE hG hT h hacc q
          unfold Oper.wp execOp
          rw [ho]
          dsimp only
          rw [run_value (w := w) k1, Oper.upon_value]
          refine hK v' w ?_
          rw [delta_pure _ (.inr ⟨_, rfl⟩)]
          exact Sim.pure h _ _ k2
        · simp only [Option.map_eq_some_iff, Prod.mk.injEq] at e
          obtain ⟨⟨v0, σ1, l⟩, q, rfl, rfl, rfl⟩ := e
          have lift : ∀ {w' : World} {K : Mu → Prop} (f : Foot), f = amemFoot E T o.op σ σ1 (olds σ.next σ1.ws) → (∀ b, b < σ.next → μ b ≠ none → g b = σ.get b) → Sim μ σ.get w σ.next σ1.next σ1.get w' K → Sim μ g w σ.next σ1.next (delta f σ σ1 g) w' K := by
            intro w' K f hf hacc hs
            refine hs.lift h (fun b hb hlt => hacc b hlt hb) hfree wf ?_ ?_ hext.1.next
            · intro b hb hor
              unfold delta
              split
              · rfl
              · rename_i hw
                have hlt : b < σ.next := by
                  rcases Nat.lt_or_ge b σ.next with q | q
                  · exact q
                  · exact absurd (.inl ⟨q, hb⟩) hw
                have hμ : μ b ≠ none := by
                  rcases hor with q | q
                  · exact q
                  · omega
                rw [hacc b hlt hμ]
                subst hf
                exact (hext.2 b hw hb).symm
            · intro b hb
              unfold delta
              rw [if_neg]
              have hn : σ.next ≤ σ1.next := hext.1.next
              have hb' : σ1.next ≤ b := hb
              rintro (q | q | q)
              · have : b < σ1.next := q.2; omega
              · have hc := amemFoot_cases E T o.op σ σ1 (olds σ.next σ1.ws)
                rw [← hf, q] at hc
                rcases hc with h | ⟨_, _, _, _, h⟩ | ⟨_, _, _, _, _, _, _, _, _, h⟩ | ⟨_, _, _, _, _, _, _, _, _, h⟩ <;> cases h
              · omega
          have whole : (∀ b, b < σ.next → μ b ≠ none → g b = σ.get b) → o.wp E.P a w K Q := by
            intro hag
            have hkn : Rel μ ({ σ with ws := [] } : AS).get w := h.known wf hag
            obtain ⟨w', hcase⟩ := amem_sim (σ' := σ1) hE hG hT hkn (fun b p1 p2 => hfree b p1 p2) q
            unfold Oper.wp
            rcases hcase with ⟨v', k1, k2⟩ | ⟨k1, rfl, k2⟩
            · rw [k1, Oper.upon_value]
              exact hK v' w' (lift _ rfl hag k2)
            · rw [k1, Oper.upon_skip]
              exact hK undef w' (lift _ rfl hag (k2.mono (Nat.le_refl _) (Nat.le_refl _) (fun μ' _ _ => undef_flat μ')))
          rcases amemFoot_cases E T o.op σ σ1 (olds σ.next σ1.ws) with hf | ⟨_, _, _, _, hf⟩ | ⟨t, x, i, b, k, ho, h1, h2, h3, hf⟩ | ⟨_, _, _, _, _, _, _, _, _, hf⟩
          · rw [hf] at hacc; exact whole hacc
          · rw [hf] at hacc; exact whole hacc
          · rw [hf] at hacc hK
            rw [ho] at q
            simp only [amem, h1, h2, Option.map_eq_some_iff, Prod.mk.injEq] at q
            obtain ⟨v1, q, rfl, rfl, rfl⟩ := q
            have hm := ev_sim (a := a) hG hT h1
            have hk := ev_sim (a := a) hG hT h2
            rw [alookup_lookAt] at q
            have hb : μ b ≠ none := by
              obtain ⟨l, hl, _⟩ := mapArg hm rfl
              rw [hl]; simp
            have q' := hacc hb v1 q
            -- the same search, in what is there now
            have hgo : ∃ ob, g b = some ob := by
              cases hgb : g b with
              | some ob => exact ⟨ob, rfl⟩
              | none =>
                rw [hgb] at q'
                unfold lookAt at q'
                split at q'
                · rw [cond_eq_ite] at q'
                  split at q' <;> cases q'
                · cases q'
            obtain ⟨ob, hgo⟩ := hgo
            have hget : ∀ c, (({ heap := .e, next := σ.next, ws := σ.ws } : AS).put b ob).get c = if c = b then some ob else none := by
              intro c
              rw [AS.get_put]; unfold upd
              split
              · rfl
              · simp [AS.get, Tr.get]
            have hrel2 : Rel μ ((({ heap := .e, next := σ.next, ws := σ.ws } : AS).put b ob).get) w := by
              refine ⟨h.size, ?_, ?_⟩
              · intro c l o1 hc ho1
                rw [hget] at ho1
                split at ho1
                · rename_i hcb; subst hcb; cases ho1; exact h.obj c l _ hc hgo
                · cases ho1
              · intro c c' l l' hc hc' hne he ⟨o1, e1, e2⟩ ⟨o2, e3, e4⟩
                rw [hget] at e1 e3
                split at e1
                · split at e3
                  · rename_i p1 p2; exact absurd (p1.trans p2.symm) hne
                  · cases e3
                · cases e1
            have hlook : alookup E (({ heap := .e, next := σ.next, ws := σ.ws } : AS).put b ob) t (.map (some b)) k false = some v1 := by
              rw [alookup_lookAt, hget, if_pos rfl, ← hgo]; exact q'
            obtain ⟨v', k1, k2⟩ := alookup_sim hE hrel2 hm hk hlook
            unfold Oper.wp execOp
            rw [ho]
            dsimp only
            rw [run_value (w := w) k1, Oper.upon_value]
            refine hK v' w ?_
            show Sim μ g w σ.next σ.next (delta (.look b t k) σ σ g) w _
            rw [delta_look]
            exact Sim.pure h _ _ k2
          · rw [hf] at hacc; exact whole hacc
end
end
end Go.VAbs

/-! The abstract machine, part 19: regions in the order of the text. -/
namespace Go.VAbs
open Go
set_option linter.unusedVariables false
noncomputable section
set_option linter.unusedSimpArgs false

section
variable {E : Env} {μ : Mu} {T T' : ATmps} {a : Act} {g : AH} {w w' : World} {σ σ' : AS}

theorem put_sim (hT : TRel μ T a.tmps) {dst : Option Nat} {v v' : Value} (hv : VRel μ v v') (e : T.put dst v = some T') : TRel μ T' (a.put dst v').tmps := by
  unfold ATmps.put at e
  split at e
  · simp only [Option.some.injEq] at e; subst e; exact hT
  · rename_i d
    cases hlt : Nat.blt d T.size with
    | false => rw [hlt] at e; cases e
    | true =>
      rw [hlt] at e
      simp only [cond_true, Option.some.injEq] at e; subst e
      have hd : d < T.size := by simpa [Nat.blt_eq] using hlt
      refine ⟨by simp only [Act.put, Array.size_setIfInBounds]; exact hT.size, fun t => ?_⟩
      simp only [ATmps.get, Act.put, Tr.get_set]
      have hgd : (a.tmps.setIfInBounds d v').getD t undef = if t = d then v' else a.tmps.getD t undef := by
        simp only [Array.getD_eq_getD_getElem?, Array.getElem?_setIfInBounds]
        by_cases q : d = t
        · subst q; rw [if_pos rfl, if_pos rfl, if_pos (by rw [hT.size]; exact hd)]; rfl
        · rw [if_neg q, if_neg (fun e => q e.symm)]
      rw [hgd]
      by_cases q : t = d
      · rw [if_pos q, if_pos q]; exact hv
      · rw [if_neg q, if_neg q]; exact hT.get t
theorem put_defers (a : Act) (dst : Option Nat) (v : Value) : (a.put dst v).defers = a.defers := by cases dst <;> rfl

theorem awanted_sim (hT : TRel μ T a.tmps) {ops : Array Oper} {o : Oper} {b : Bool} (e : awanted ops T o = some b) : Region.wanted o (yielded ops a.tmps) = b := by
  unfold awanted at e
  unfold Region.wanted
  split at e
  · rename_i hg; rw [hg]; simp only [Option.some.injEq] at e; exact e
  · rename_i j want hg
    rw [hg]
    split at e
    · rename_i t ht
      have hr := hT.get t
      have hy : yielded ops a.tmps j = (match a.tmps.getD t undef with | .bool b => some b | _ => none) := by
        unfold yielded
        rw [ht]
        simp only [Option.bind_some, Array.getD_eq_getD_getElem?]
        cases h : a.tmps[t]? with
        | none => simp [undef]
        | some x => cases x <;> rfl
      simp only
      rw [hy]
      split at e
      · rename_i x hx
        rw [hx] at hr
        rw [hr.eq_of_flat rfl]
        simp only [Option.some.injEq] at e
        rw [← e]
        cases x <;> cases want <;> rfl
      · rename_i x hx
        simp only [Option.some.injEq] at e; subst e
        have : (match a.tmps.getD t undef with | .bool b => some b | _ => none) = none := by
          generalize a.tmps.getD t undef = u at hr ⊢
          generalize T.get t = y at hr hx
          cases hr with
          | flat hf => cases u <;> first | rfl | exact (hx _ rfl).elim
          | _ => rfl
        rw [this]
        rfl
    · simp only [Option.some.injEq] at e; subst e
      rename_i ht
      unfold yielded
      simp only [ht, Option.bind_none]
      rfl

theorem aops_ext {call : ACall} (hc : CallExt call) {ops : Array Oper} : ∀ (r : List Oper) (T : ATmps) (σ : AS) (T' : ATmps) (σ' : AS) (fs : List Foot), aops E call ops r T σ = some (T', σ', fs) → ASExt σ σ'
  | [], T, σ, T', σ', fs, e => by
    simp only [aops, Option.some.injEq, Prod.mk.injEq] at e
    obtain ⟨rfl, rfl, rfl⟩ := e
    exact .refl σ
  | o :: r, T, σ, T', σ', fs, e => by
    simp only [aops] at e
    split at e
    · split at e
      · rename_i v σ1 f hop
        split at e
        · rename_i T1 hput
          split at e
          · rename_i T2 σ2 fs2 hrest
            simp only [Option.some.injEq, Prod.mk.injEq] at e
            obtain ⟨rfl, rfl, rfl⟩ := e
            exact (aoper_ext hc hop).1.trans (aops_ext hc r T1 σ1 T2 σ2 fs2 hrest)
          · cases e
        · cases e
      · cases e
    · split at e
      · rename_i T1 hput
        split at e
        · rename_i T2 σ2 fs2 hrest
          simp only [Option.some.injEq, Prod.mk.injEq] at e
          obtain ⟨rfl, rfl, rfl⟩ := e
          exact aops_ext hc r T1 σ T2 σ2 fs2 hrest
        · cases e
      · cases e
    · cases e

theorem aops_seq (hE : EnvOk E) {call : ACall} (hc : CallOk E call) {ops : Array Oper} {Q : Exit → Act → World → Prop} : ∀ (r : List Oper) (k : Nat) (T : ATmps) (σ : AS) (T' : ATmps) (σ' : AS) (fs : List Foot) (μ : Mu) (w : World) (a : Act),
    (∀ j, r[j]? = ops[k + j]?) → GlOk E μ → TRel μ T a.tmps → Rel μ σ.get w → (∀ b, σ.next ≤ b → σ.get b = none) → (∀ b, σ.next ≤ b → b < σ'.next → μ b = none) → a.defers = [] → aops E call ops r T σ = some (T', σ', fs) →
    (∀ a' w', a'.defers = [] → Sim μ σ.get w σ.next σ'.next σ'.get w' (fun μ' => TRel μ' T' a'.tmps) → Q .normal a' w') → wpOps E.P ops Q (List.range' k r.length) a w
  | [], k, T, σ, T', σ', fs, μ, w, a, _, hG, hT, h, wf, hd, hdef, e, hQ => by
    simp only [aops, Option.some.injEq, Prod.mk.injEq] at e
    obtain ⟨rfl, rfl, rfl⟩ := e
    exact hQ a w hdef (Sim.pure h _ _ hT)
  | o :: r, k, T, σ, T', σ', fs, μ, w, a, hr, hG, hT, h, wf, hd, hdef, e, hQ => by
    have ho : ops[k]? = some o := by simpa using (hr 0).symm
    have hr' : ∀ j, r[j]? = ops[k + 1 + j]? := by
      intro j
      have := hr (j + 1)
      rw [show k + 1 + j = k + (j + 1) from by omega, ← this]
      simp
    simp only [List.length_cons, List.range'_succ, wpOps, ho]
    simp only [aops] at e
    split at e
    · rename_i hw
      rw [awanted_sim hT hw, if_pos rfl]
      split at e
      · rename_i v σ1 f hop
        split at e
        · rename_i T1 hput
          split at e
          · rename_i T2 σ2 fs2 hrest
            simp only [Option.some.injEq, Prod.mk.injEq] at e
            obtain ⟨rfl, rfl, rfl⟩ := e
            have hext := aoper_ext (⟨hc.ext⟩ : CallExt call) hop
            have hn2 : σ1.next ≤ σ2.next := (aops_ext (⟨hc.ext⟩ : CallExt call) r T1 σ1 T2 σ2 fs2 hrest).next
            refine .inl (aoper_step hE hc hG hT h wf (fun b h1 h2 => hd b h1 (by omega)) hop ?_ ?_)
            · cases f <;> simp [accOk, lookExt]
            · intro v' w1 hs
              have hdel : delta f σ σ1 σ.get = σ1.get := by
                funext b
                unfold delta
                split
                · rfl
                · rename_i hw2
                  rcases Nat.lt_or_ge b σ1.next with q | q
                  · exact (hext.2 b hw2 q).symm
                  · rw [wf b (Nat.le_trans hext.1.next q), hext.1.wf wf b q]
              rw [hdel] at hs
              obtain ⟨μ1, f1, r1, n1, k1⟩ := hs
              refine aops_seq hE hc r (k + 1) T1 σ1 T2 σ2 fs2 μ1 w1 (a.put o.dst v') hr' (hG.mono f1.ext) (put_sim (hT.mono f1.ext) k1 hput) r1 (hext.1.wf wf) ?_ (by rw [put_defers]; exact hdef) hrest ?_
              · intro b hb hb2
                cases hm : μ1 b with
                | none => rfl
                | some l =>
                  cases hm0 : μ b with
                  | none => have := n1 b hm0 (by rw [hm]; simp); omega
                  | some l0 =>
                    have := hd b (Nat.le_trans hext.1.next hb) hb2
                    rw [hm0] at this; cases this
              · intro a' w2 hdef' hs2
                refine hQ a' w2 hdef' ?_
                obtain ⟨μ2, f2, r2, n2, k2⟩ := hs2
                refine ⟨μ2, f1.trans f2, r2, ?_, k2⟩
                intro b hb hb2
                cases hm1 : μ1 b with
                | some l => have := n1 b hb (by rw [hm1]; simp); omega
                | none => have := n2 b hm1 hb2; have := hext.1.next; omega
          · cases e
        · cases e
      · cases e
    · rename_i hw
      rw [awanted_sim hT hw]
      simp only [Bool.false_eq_true, if_false]
      split at e
      · rename_i T1 hput
        split at e
        · rename_i T2 σ2 fs2 hrest
          simp only [Option.some.injEq, Prod.mk.injEq] at e
          obtain ⟨rfl, rfl, rfl⟩ := e
          exact aops_seq hE hc r (k + 1) T1 σ T2 σ2 fs2 μ w (a.put o.dst undef) hr' hG (put_sim hT (undef_flat μ) hput) h wf hd (by rw [put_defers]; exact hdef) hrest hQ
        · cases e
      · cases e
    · cases e
end
end
end Go.VAbs

/-! The abstract machine, part 20: regions that draw their order: what is known of the steps. -/
namespace Go.VAbs
open Go
set_option linter.unusedVariables false
noncomputable section
set_option linter.unusedSimpArgs false

/-! ### What an operation waits for -/
theorem fold_bit (acc : List Nat) (i : Nat) : ∀ (l : List Edge) (s : Nat), (l.foldl (fun s e => cond (Region.binds .any e) (s ||| 2 ^ e.on ||| acc.getD e.on 0) s) s).testBit i = true →
    s.testBit i = true ∨ ∃ e ∈ l, Region.binds .any e = true ∧ (i = e.on ∨ (acc.getD e.on 0).testBit i = true)
  | [], s, h => .inl h
  | e :: l, s, h => by
    simp only [List.foldl_cons] at h
    rcases fold_bit acc i l _ h with h1 | ⟨e', h1, h2⟩
    · cases hb : Region.binds .any e with
      | false => rw [hb] at h1; exact .inl h1
      | true =>
        rw [hb] at h1
        simp only [cond_true, Nat.testBit_or, Bool.or_eq_true] at h1
        rcases h1 with (h1 | h1) | h1
        · exact .inl h1
        · rw [Nat.testBit_two_pow] at h1
          simp only [decide_eq_true_eq] at h1
          exact .inr ⟨e, by simp, hb, .inl h1.symm⟩
        · exact .inr ⟨e, by simp, hb, .inr h1⟩
    · exact .inr ⟨e', by simp [h1], h2⟩

theorem masks_closed {ops : List Oper} {L : Nat → Prop} (hL : ∀ j o, ops[j]? = some o → L j → ∀ e ∈ o.after.toList, Region.binds .any e = true → L e.on) :
    ∀ (r : List Oper) (k : Nat) (acc : List Nat), (∀ j, r[j]? = ops[k + j]?) → acc.length = k → (∀ j i, (acc.getD j 0).testBit i = true → L j → L i) →
      ∀ j i, ((masks r acc).getD j 0).testBit i = true → L j → L i
  | [], k, acc, _, _, ha => ha
  | o :: r, k, acc, hr, hk, ha => by
    have ho : ops[k]? = some o := by simpa using (hr 0).symm
    have hr' : ∀ j, r[j]? = ops[k + 1 + j]? := by
      intro j
      have := hr (j + 1)
      rw [show k + 1 + j = k + (j + 1) from by omega, ← this]
      simp
    refine masks_closed hL r (k + 1) (acc ++ [maskOf acc o]) hr' (by simp [hk]) ?_
    intro j i hbit hj
    rcases Nat.lt_trichotomy j k with h1 | h1 | h1
    · refine ha j i ?_ hj
      rwa [List.getD_eq_getElem?_getD, List.getElem?_append_left (by omega), ← List.getD_eq_getElem?_getD] at hbit
    · subst h1
      rw [List.getD_eq_getElem?_getD, List.getElem?_append_right (by omega), hk] at hbit
      simp only [Nat.sub_self, List.getElem?_cons_zero, Option.getD_some] at hbit
      unfold maskOf at hbit
      rcases fold_bit acc i _ _ hbit with h2 | ⟨e, h2, h3, h4⟩
      · simp at h2
      · have hon := hL j o ho hj e h2 h3
        rcases h4 with rfl | h4
        · exact hon
        · exact ha e.on i h4 hon
    · rw [List.getD_eq_getElem?_getD, List.getElem?_append_right (by omega)] at hbit
      rw [List.getElem?_eq_none (by simp; omega)] at hbit
      simp at hbit

/-! ### The steps in the order of the text -/
def StepAt (E : Env) (call : ACall) (ops : Array Oper) (T : ATmps) (σ : AS) (o : Oper) (v : Value) (f : Foot) (T' : ATmps) (σ' : AS) : Prop :=
  (awanted ops T o = some true ∧ aoper E call T o σ = some (v, σ', f) ∧ T.put o.dst v = some T') ∨ (awanted ops T o = some false ∧ v = undef ∧ f = .pure ∧ σ' = σ ∧ T.put o.dst undef = some T')

theorem trace_of {E : Env} {call : ACall} {ops : Array Oper} : ∀ (r : List Oper) (T : ATmps) (σ : AS) (T' : ATmps) (σ' : AS) (fs : List Foot), aops E call ops r T σ = some (T', σ', fs) →
    ∃ (Ts : Nat → ATmps) (Ss : Nat → AS) (vs : Nat → Value) (fo : Nat → Foot), Ts 0 = T ∧ Ss 0 = σ ∧ Ts r.length = T' ∧ Ss r.length = σ' ∧ (∀ i, i < r.length → fs[i]? = some (fo i)) ∧
      ∀ i o, r[i]? = some o → StepAt E call ops (Ts i) (Ss i) o (vs i) (fo i) (Ts (i + 1)) (Ss (i + 1))
  | [], T, σ, T', σ', fs, e => by
    simp only [aops, Option.some.injEq, Prod.mk.injEq] at e
    obtain ⟨rfl, rfl, rfl⟩ := e
    exact ⟨fun _ => T, fun _ => σ, fun _ => undef, fun _ => .pure, rfl, rfl, rfl, rfl, fun i hi => by simp at hi, fun i o h => by simp at h⟩
  | o :: r, T, σ, T', σ', fs, e => by
    have build : ∀ (v : Value) (f : Foot) (T1 : ATmps) (σ1 : AS) (fs1 : List Foot), StepAt E call ops T σ o v f T1 σ1 → aops E call ops r T1 σ1 = some (T', σ', fs1) → fs = f :: fs1 →
        ∃ (Ts : Nat → ATmps) (Ss : Nat → AS) (vs : Nat → Value) (fo : Nat → Foot), Ts 0 = T ∧ Ss 0 = σ ∧ Ts (o :: r).length = T' ∧ Ss (o :: r).length = σ' ∧ (∀ i, i < (o :: r).length → fs[i]? = some (fo i)) ∧
          ∀ i x, (o :: r)[i]? = some x → StepAt E call ops (Ts i) (Ss i) x (vs i) (fo i) (Ts (i + 1)) (Ss (i + 1)) := by
      intro v f T1 σ1 fs1 hs hr hfs
      obtain ⟨Ts, Ss, vs, fo, h1, h2, h3, h4, h5, h6⟩ := trace_of r T1 σ1 T' σ' fs1 hr
      refine ⟨fun i => match i with | 0 => T | i + 1 => Ts i, fun i => match i with | 0 => σ | i + 1 => Ss i, fun i => match i with | 0 => v | i + 1 => vs i, fun i => match i with | 0 => f | i + 1 => fo i, rfl, rfl, h3, h4, ?_, ?_⟩
      · intro i hi
        subst hfs
        cases i with
        | zero => rfl
        | succ i => simpa using h5 i (by simpa using hi)
      · intro i x hx
        cases i with
        | zero => simp at hx; subst hx; simp only [h1, h2]; exact hs
        | succ i => exact h6 i x (by simpa using hx)
    simp only [aops] at e
    split at e
    · rename_i hw
      split at e
      · rename_i v σ1 f hop
        split at e
        · rename_i T1 hput
          split at e
          · rename_i T2 σ2 fs2 hrest
            simp only [Option.some.injEq, Prod.mk.injEq] at e
            obtain ⟨rfl, rfl, rfl⟩ := e
            exact build v f T1 σ1 fs2 (.inl ⟨hw, hop, hput⟩) hrest rfl
          · cases e
        · cases e
      · cases e
    · rename_i hw
      split at e
      · rename_i T1 hput
        split at e
        · rename_i T2 σ2 fs2 hrest
          simp only [Option.some.injEq, Prod.mk.injEq] at e
          obtain ⟨rfl, rfl, rfl⟩ := e
          exact build undef .pure T1 σ fs2 (.inr ⟨hw, rfl, rfl, rfl, hput⟩) hrest rfl
        · cases e
      · cases e
    · cases e

/-! ### The heap and the frame behind some of them -/
section
variable (Ts : Nat → ATmps) (Ss : Nat → AS) (vs : Nat → Value) (fo : Nat → Foot) (ops : List Oper)

/-- What step k may have turned. -/
def wr8 (k b : Nat) : Prop := writes (fo k) (Ss k) (Ss (k + 1)) b
noncomputable def G (L : Nat → Prop) : Nat → AH
  | 0 => (Ss 0).get
  | k + 1 => fun b => open Classical in if L k ∧ wr8 Ss fo k b then (Ss (k + 1)).get b else G L k b
def put' (T : ATmps) (o : Oper) (v : Value) : ATmps := match o.dst with | none => T | some d => { T with tr := T.tr.set d v }
noncomputable def TT (L : Nat → Prop) : Nat → ATmps
  | 0 => Ts 0
  | k + 1 => open Classical in if L k then (match ops[k]? with | some o => put' (TT L k) o (vs k) | none => TT L k) else TT L k

theorem put'_get (T : ATmps) (o : Oper) (v : Value) (t : Nat) : (put' T o v).get t = if writesTmp o t then v else T.get t := by
  unfold put' writesTmp
  cases o.dst with
  | none => rfl
  | some d =>
    simp only [ATmps.get, Tr.get_set]
    by_cases q : t = d
    · subst q
      rw [if_pos rfl, if_pos (Nat.beq_refl t)]; rfl
    · have : ¬ Nat.beq d t = true := fun h => q (Nat.eq_of_beq_eq_true h).symm
      rw [if_neg q, if_neg this]
theorem put'_size (T : ATmps) (o : Oper) (v : Value) : (put' T o v).size = T.size := by unfold put'; cases o.dst <;> rfl
theorem put_put' {T T' : ATmps} {o : Oper} {v : Value} (h : T.put o.dst v = some T') : T' = put' T o v := by
  unfold ATmps.put at h
  unfold put'
  split at h
  · rename_i hd; rw [hd]; simp only [Option.some.injEq] at h; exact h.symm
  · rename_i d hd
    rw [hd]
    cases hlt : Nat.blt d T.size with
    | false => rw [hlt] at h; cases h
    | true => rw [hlt] at h; simp only [cond_true, Option.some.injEq] at h; exact h.symm

theorem G_last (L : Nat → Prop) (b m : Nat) : ∀ n, m ≤ n → (∀ k, m ≤ k → k < n → L k → ¬ wr8 Ss fo k b) → G Ss fo L n b = G Ss fo L m b
  | 0, h, _ => by rw [show m = 0 from by omega]
  | n + 1, h, hn => by
    rcases Nat.lt_or_ge n m with h1 | h1
    · rw [show m = n + 1 from by omega]
    · simp only [G]
      rw [if_neg (fun hh => hn n h1 (by omega) hh.1 hh.2)]
      exact G_last L b m n h1 fun k p q => hn k p (by omega)
theorem G_congr (L L' : Nat → Prop) (b : Nat) : ∀ n, (∀ k, k < n → wr8 Ss fo k b → (L k ↔ L' k)) → G Ss fo L n b = G Ss fo L' n b
  | 0, _ => rfl
  | n + 1, h => by
    simp only [G]
    have ih := G_congr L L' b n fun k p => h k (by omega)
    by_cases hw : wr8 Ss fo n b
    · have := h n (by omega) hw
      by_cases hL : L n
      · rw [if_pos ⟨hL, hw⟩, if_pos ⟨this.1 hL, hw⟩]
      · rw [if_neg (fun q => hL q.1), if_neg (fun q => hL (this.2 q.1))]; exact ih
    · rw [if_neg (fun q => hw q.2), if_neg (fun q => hw q.2)]; exact ih
theorem TT_last (L : Nat → Prop) (t m : Nat) : ∀ n, m ≤ n → (∀ k o, m ≤ k → k < n → L k → ops[k]? = some o → writesTmp o t = false) → (TT Ts vs ops L n).get t = (TT Ts vs ops L m).get t
  | 0, h, _ => by rw [show m = 0 from by omega]
  | n + 1, h, hn => by
    rcases Nat.lt_or_ge n m with h1 | h1
    · rw [show m = n + 1 from by omega]
    · have ih := TT_last L t m n h1 fun k o p q => hn k o p (by omega)
      simp only [TT]
      split
      · rename_i hL
        split
        · rename_i o ho
          rw [put'_get, hn n o h1 (by omega) hL ho]
          simpa using ih
        · exact ih
      · exact ih
theorem TT_congr (L L' : Nat → Prop) (t : Nat) : ∀ n, (∀ k o, k < n → ops[k]? = some o → writesTmp o t = true → (L k ↔ L' k)) → (TT Ts vs ops L n).get t = (TT Ts vs ops L' n).get t
  | 0, _ => rfl
  | n + 1, h => by
    have ih := TT_congr L L' t n fun k o p => h k o (by omega)
    simp only [TT]
    cases ho : ops[n]? with
    | none =>
      have : ∀ (M : Nat → Prop), (open Classical in if M n then TT Ts vs ops M n else TT Ts vs ops M n) = TT Ts vs ops M n := by intro M; split <;> rfl
      simp only [this]; exact ih
    | some o =>
      simp only
      cases hw : writesTmp o t with
      | true =>
        have := h n o (by omega) ho hw
        by_cases hL : L n
        · rw [if_pos hL, if_pos (this.1 hL), put'_get, put'_get, hw]; rfl
        · rw [if_neg hL, if_neg (fun q => hL (this.2 q))]; exact ih
      | false =>
        have g1 : ∀ (M : Nat → Prop), (open Classical in if M n then put' (TT Ts vs ops M n) o (vs n) else TT Ts vs ops M n).get t = (TT Ts vs ops M n).get t := by
          intro M; split
          · rw [put'_get, hw]; rfl
          · rfl
        rw [g1, g1]; exact ih
theorem TT_size (L : Nat → Prop) : ∀ n, (TT Ts vs ops L n).size = (Ts 0).size
  | 0 => rfl
  | n + 1 => by
    simp only [TT]
    split
    · split
      · rw [put'_size]; exact TT_size L n
      · exact TT_size L n
    · exact TT_size L n
end
end
end Go.VAbs

/-! The abstract machine, part 21: regions that draw their order: facts of the steps. -/
namespace Go.VAbs
open Go
set_option linter.unusedVariables false
noncomputable section
set_option linter.unusedSimpArgs false

def footFacts (E : Env) (o : Op) (σ σ' : AS) : Foot → Prop
  | .pure => σ' = σ
  | .alloc b => b = σ.next ∧ σ'.next = σ.next + 1 ∧ (mayTouch o).1 = true
  | .rd b => σ' = σ ∧ σ.get b ≠ none ∧ (mayTouch o).1 = true
  | .wr b => σ'.next = σ.next ∧ σ.get b ≠ none ∧ (mayTouch o).1 = true ∧ (mayTouch o).2 = true
  | .all l => (mayTouch o).1 = true ∧ (l ≠ [] → (mayTouch o).2 = true)
  | .look b t k => σ' = σ ∧ σ.get b ≠ none ∧ (mayTouch o).1 = true
  | .ent b t k => lookExt E t k (σ.get b) (σ'.get b) ∧ (mayTouch o).1 = true ∧ (mayTouch o).2 = true

section
variable {E : Env} {T : ATmps} {σ σ' : AS}

theorem amem_touch {o : Op} {v : Value} {l : Bool} (e : amem E T o σ = some (v, σ', l)) : (mayTouch o).1 = true ∧ (l = true → (mayTouch o).2 = true) := by
  unfold amem at e
  cases o with
  | lookup t x i ok =>
    simp only at e
    split at e
    · simp only [Option.map_eq_some_iff, Prod.mk.injEq] at e; obtain ⟨_, _, _, _, rfl⟩ := e; exact ⟨rfl, fun h => by cases h⟩
    · cases e
  | mapUpdate t m k x => exact ⟨rfl, fun _ => rfl⟩
  | insert t m k x => exact ⟨rfl, fun _ => rfl⟩
  | mapEntry t m k => exact ⟨rfl, fun _ => rfl⟩
  | entryStore t m s x => exact ⟨rfl, fun _ => rfl⟩
  | next it str => exact ⟨rfl, fun _ => rfl⟩
  | range t x =>
    refine ⟨rfl, ?_⟩
    simp only at e
    split at e
    · unfold arange at e
      repeat' split at e
      all_goals first
        | (cases e; done)
        | (simp only [Option.some.injEq, Prod.mk.injEq] at e; obtain ⟨_, _, rfl⟩ := e; intro h; cases h)
    · cases e
  | entry it =>
    refine ⟨rfl, ?_⟩
    simp only at e
    split at e
    · unfold amentry at e
      simp only [cond_eq_ite] at e
      repeat' split at e
      all_goals first
        | (cases e; done)
        | (simp only [Option.some.injEq, Prod.mk.injEq] at e; obtain ⟨_, _, rfl⟩ := e; intro h; cases h)
    · cases e
  | convert s d x =>
    simp only [cond_eq_ite] at e
    refine ⟨rfl, ?_⟩
    repeat' split at e
    all_goals first
      | (cases e; done)
      | (simp only [Option.some.injEq, Prod.mk.injEq] at e; obtain ⟨_, _, rfl⟩ := e; intro h; cases h)
  | call c =>
    obtain ⟨callee, args, ts⟩ := c
    simp only at e
    split at e
    · exact ⟨rfl, fun _ => rfl⟩
    · exact ⟨rfl, fun _ => rfl⟩
    · exact ⟨rfl, fun _ => rfl⟩
    · exact ⟨rfl, fun _ => rfl⟩
    · split at e
      · simp only [Option.map_eq_some_iff, Prod.mk.injEq] at e; obtain ⟨_, _, _, _, rfl⟩ := e; exact ⟨rfl, fun h => by cases h⟩
      · cases e
    · split at e
      · split at e
        · simp only [Option.some.injEq, Prod.mk.injEq] at e; obtain ⟨_, _, rfl⟩ := e; exact ⟨rfl, fun h => by cases h⟩
        · cases e
      · cases e
    · cases e
  | _ => simp at e

theorem aalloc_touch {o : Op} {r : AObj × (Nat → Value)} (e : aalloc E T o = some r) : (mayTouch o).1 = true := by
  cases o <;> first | rfl | simp [aalloc] at e

theorem aoper_foot {call : ACall} {o : Oper} {v : Value} {f : Foot} (e : aoper E call T o σ = some (v, σ', f)) : footFacts E o.op σ σ' f := by
  unfold aoper at e
  split at e
  · rename_i n args hcal
    split at e
    · simp only [Option.some.injEq, Prod.mk.injEq] at e
      obtain ⟨rfl, rfl, rfl⟩ := e
      unfold acallee at hcal
      split at hcal
      · rename_i c ho
        rw [ho]
        obtain ⟨callee, cargs, ts⟩ := c
        cases callee with
        | value f => exact ⟨rfl, fun _ => rfl⟩
        | invoke r m => simp at hcal
        | builtin b => simp at hcal
      · cases hcal
    · cases e
  · split at e
    · simp only [Option.some.injEq, Prod.mk.injEq] at e
      obtain ⟨rfl, rfl, rfl⟩ := e
      exact rfl
    · split at e
      · rename_i hal
        simp only [Option.some.injEq, Prod.mk.injEq] at e
        obtain ⟨rfl, rfl, rfl⟩ := e
        exact ⟨rfl, rfl, aalloc_touch hal⟩
      · split at e
        · rename_i t x ho
          split at e
          · rename_i ad hx
            simp only [Option.map_eq_some_iff, Prod.mk.injEq] at e
            obtain ⟨v0, q, rfl, rfl, rfl⟩ := e
            refine ⟨rfl, ?_, by rw [ho]; rfl⟩
            unfold aload at q
            split at q
            · split at q
              · simp only [Option.map_eq_some_iff] at q
                obtain ⟨l, k1, _⟩ := q
                obtain ⟨_, c, ro, gr, h2, _⟩ := AS.read_some k1
                rw [h2]; simp
              · cases q
            · split at q
              · rename_i hr
                obtain ⟨_, c, ro, gr, h2, _⟩ := AS.read_some hr
                rw [h2]; simp
              · cases q
            · cases q
          · cases e
        · rename_i t x y ho
          split at e
          · rename_i ad v0 hx hy
            simp only [Option.map_eq_some_iff, Prod.mk.injEq] at e
            obtain ⟨σ1, q, rfl, rfl, rfl⟩ := e
            unfold astore at q
            simp only [cond_eq_ite] at q
            split at q
            · split at q
              · obtain ⟨_, c, gr, h2, _, _, h5⟩ := AS.write_some q
                refine ⟨by rw [h5]; rfl, by rw [h2]; simp, by rw [ho]; rfl, by rw [ho]; rfl⟩
              · cases q
            · cases q
          · cases e
        · rename_i t x lo hi mx ho
          simp only [Option.map_eq_some_iff, Prod.mk.injEq] at e
          obtain ⟨⟨v0, b⟩, q, rfl, rfl, rfl⟩ := e
          refine ⟨rfl, ?_, by rw [ho]; rfl⟩
          unfold aslice2 at q
          simp only [cond_eq_ite] at q
          split at q
          · split at q
            · rename_i hblk
              split at q
              · simp only [Option.some.injEq, Prod.mk.injEq] at q
                obtain ⟨_, rfl⟩ := q
                rw [hblk]; simp
              · cases q
            · cases q
          · cases q
        · simp only [Option.map_eq_some_iff, Prod.mk.injEq] at e
          obtain ⟨⟨v0, σ1, l⟩, q, rfl, rfl, rfl⟩ := e
          have hto1 := amem_touch q
          have hsh := amem_shape q
          have hto : (mayTouch o.op).1 = true ∧ (olds σ.next σ1.ws ≠ [] → (mayTouch o.op).2 = true) := by
            refine ⟨hto1.1, fun hne => ?_⟩
            cases l with
            | true => exact hto1.2 rfl
            | false => exact absurd (by rw [hsh.ws_quiet]; rfl) hne
          rcases amemFoot_cases E T o.op σ σ1 (olds σ.next σ1.ws) with hf | ⟨_, _, _, ho, hf⟩ | ⟨t, x, i, b, k, ho, h1, h2, h3, hf⟩ | ⟨_, _, _, b, k, ho, _, _, h3, hf⟩
          · rw [hf]; exact hto
          · rw [hf, ho]; exact ⟨rfl, fun _ => rfl⟩
          · rw [hf]
            refine ⟨?_, ?_, hto.1⟩
            · rw [ho] at q
              simp only [amem, h1, h2, Option.map_eq_some_iff, Prod.mk.injEq] at q
              obtain ⟨_, _, _, rfl, _⟩ := q
              rfl
            · intro hn
              rw [hn] at h3
              unfold lookAt at h3
              split at h3
              · rw [cond_eq_ite] at h3
                split at h3 <;> cases h3
              · cases h3
          · rw [hf]; exact ⟨entSafe_ext h3, by rw [ho]; rfl, by rw [ho]; rfl⟩
end

theorem clash_static {E : Env} {o p : Op} {σ1 σ1' σ2 σ2' : AS} {f g : Foot} (hf : footFacts E o σ1 σ1' f) (hg : footFacts E p σ2 σ2' g) (h : footClash f g = true) :
    (((mayTouch o).2 && (mayTouch p).1) || ((mayTouch o).1 && (mayTouch p).2)) = true := by
  have ne : ∀ {a : Nat} {l : List Nat}, memB a l = true → l ≠ [] := by rintro a _ h rfl; cases h
  cases f <;> cases g <;> simp only [footFacts] at hf hg <;> simp only [footClash] at h <;> first
    | (cases h; done)
    | (have hn := ne h; simp_all; done)
    | (simp_all; done)
    | skip
  rename_i l m
  rw [Bool.or_eq_true] at h
  rcases h with h | h
  · have hn : l ≠ [] := by rintro rfl; cases h
    simp_all
  · have hn : m ≠ [] := by rintro rfl; cases h
    simp_all

/-- All that is known of a region's steps in the order of the text. -/
structure DrawCtx (E : Env) (call : ACall) (ops : Array Oper) (Ts : Nat → ATmps) (Ss : Nat → AS) (vs : Nat → Value) (fo : Nat → Foot) : Prop where
  step : ∀ i o, ops.toList[i]? = some o → StepAt E call ops (Ts i) (Ss i) o (vs i) (fo i) (Ts (i + 1)) (Ss (i + 1))
  wf0 : ∀ b, (Ss 0).next ≤ b → (Ss 0).get b = none
  reg : regionWf ops = true
  clash : ∀ i j, i < j → j < ops.size → pairAt (masks ops.toList []) ops.toList i j = true → footClash (fo i) (fo j) = false

section
variable {E : Env} {call : ACall} {ops : Array Oper} {Ts : Nat → ATmps} {Ss : Nat → AS} {vs : Nat → Value} {fo : Nat → Foot}

theorem DrawCtx.facts (h : DrawCtx E call ops Ts Ss vs fo) (hc : CallExt call) {i : Nat} {o : Oper} (ho : ops.toList[i]? = some o) :
    ASExt (Ss i) (Ss (i + 1)) ∧ (∀ b, ¬ wr8 Ss fo i b → b < (Ss (i + 1)).next → (Ss (i + 1)).get b = (Ss i).get b) ∧ footFacts E o.op (Ss i) (Ss (i + 1)) (fo i) := by
  rcases h.step i o ho with ⟨h1, h2, h3⟩ | ⟨h1, h2, h3, h4, h5⟩
  · have := aoper_ext hc h2
    exact ⟨this.1, this.2, aoper_foot h2⟩
  · rw [h4, h3]; exact ⟨.refl _, fun _ _ _ => rfl, rfl⟩

theorem get_of_lt {i : Nat} (hi : i < ops.size) : ∃ o, ops.toList[i]? = some o := ⟨ops[i], by simp [hi]⟩

theorem DrawCtx.next_le (h : DrawCtx E call ops Ts Ss vs fo) (hc : CallExt call) {i : Nat} : ∀ {j : Nat}, i ≤ j → j ≤ ops.size → (Ss i).next ≤ (Ss j).next
  | 0, hij, _ => by rw [show i = 0 from by omega]; exact Nat.le_refl _
  | j + 1, hij, hj => by
    rcases Nat.lt_or_ge j i with h1 | h1
    · rw [show i = j + 1 from by omega]; exact Nat.le_refl _
    · obtain ⟨o, ho⟩ := get_of_lt (ops := ops) (i := j) (by omega)
      exact Nat.le_trans (h.next_le hc h1 (by omega)) (h.facts hc ho).1.next
theorem DrawCtx.wf (h : DrawCtx E call ops Ts Ss vs fo) (hc : CallExt call) : ∀ {i : Nat}, i ≤ ops.size → ∀ b, (Ss i).next ≤ b → (Ss i).get b = none
  | 0, _ => h.wf0
  | i + 1, hi => by
    obtain ⟨o, ho⟩ := get_of_lt (ops := ops) (i := i) (by omega)
    exact (h.facts hc ho).1.wf (h.wf hc (by omega))
theorem DrawCtx.same (h : DrawCtx E call ops Ts Ss vs fo) (hc : CallExt call) {i b : Nat} (hi : i < ops.size) (hw : ¬ wr8 Ss fo i b) : (Ss (i + 1)).get b = (Ss i).get b := by
  obtain ⟨o, ho⟩ := get_of_lt (ops := ops) hi
  have hf := h.facts hc ho
  rcases Nat.lt_or_ge b (Ss (i + 1)).next with h1 | h1
  · exact hf.2.1 b hw h1
  · rw [h.wf hc (by omega) b h1, h.wf hc (by omega) b (Nat.le_trans hf.1.next h1)]

theorem DrawCtx.G_agree (h : DrawCtx E call ops Ts Ss vs fo) (hc : CallExt call) {L : Nat → Prop} {b : Nat} : ∀ {i : Nat}, i ≤ ops.size → (∀ k, k < i → wr8 Ss fo k b → L k) → G Ss fo L i b = (Ss i).get b
  | 0, _, _ => rfl
  | i + 1, hi, hl => by
    simp only [G]
    by_cases hw : wr8 Ss fo i b
    · rw [if_pos ⟨hl i (by omega) hw, hw⟩]
    · rw [if_neg (fun q => hw q.2), h.same hc (by omega) hw]
      exact h.G_agree hc (by omega) fun k p => hl k (by omega)
theorem DrawCtx.TT_agree (h : DrawCtx E call ops Ts Ss vs fo) {L : Nat → Prop} {t : Nat} : ∀ {i : Nat}, i ≤ ops.size → (∀ k o, k < i → ops.toList[k]? = some o → writesTmp o t = true → L k) → (TT Ts vs ops.toList L i).get t = (Ts i).get t
  | 0, _, _ => rfl
  | i + 1, hi, hl => by
    obtain ⟨o, ho⟩ := get_of_lt (ops := ops) (i := i) (by omega)
    have ih := h.TT_agree (i := i) (by omega) fun k o p => hl k o (by omega)
    have hnext : Ts (i + 1) = put' (Ts i) o (vs i) := by
      rcases h.step i o ho with ⟨_, _, h3⟩ | ⟨_, h2, _, _, h5⟩
      · exact put_put' h3
      · rw [h2]; exact put_put' h5
    simp only [TT, ho]
    rw [hnext, put'_get]
    cases hw : writesTmp o t with
    | true => rw [if_pos (hl i o (by omega) ho hw), put'_get, hw, if_pos rfl, if_pos rfl]
    | false =>
      split
      · rw [put'_get, hw]; simpa using ih
      · simpa using ih

/-- Two operations that nothing orders: they do not disturb each other. -/
theorem DrawCtx.apart (h : DrawCtx E call ops Ts Ss vs fo) (hc : CallExt call) {i j : Nat} (hij : i < j) (hj : j < ops.size) (hm : ((masks ops.toList []).getD j 0).testBit i = false) : footClash (fo i) (fo j) = false := by
  obtain ⟨oi, hoi⟩ := get_of_lt (ops := ops) (i := i) (by omega)
  obtain ⟨oj, hoj⟩ := get_of_lt (ops := ops) hj
  cases hcl : footClash (fo i) (fo j) with
  | false => rfl
  | true =>
    have := h.clash i j hij hj (by
      unfold pairAt
      rw [hoi, hoj]
      simp only [hm, Bool.not_false, Bool.true_and]
      exact clash_static (h.facts hc hoi).2.2 (h.facts hc hoj).2.2 hcl)
    rw [hcl] at this; cases this
theorem DrawCtx.tmps (h : DrawCtx E call ops Ts Ss vs fo) {i j : Nat} {oi oj : Oper} (hij : i < j) (hoi : ops.toList[i]? = some oi) (hoj : ops.toList[j]? = some oj) (hm : ((masks ops.toList []).getD j 0).testBit i = false) : tmpApart ops.toList oi oj = true := by
  have hr := h.reg
  unfold regionWf at hr
  have hj := (List.getElem?_eq_some_iff.1 hoj).1
  have h1 := List.all_eq_true.1 hr j (by simpa using hj)
  rw [hoj] at h1
  simp only [Bool.and_eq_true] at h1
  have h2 := List.all_eq_true.1 h1.2 i (by simpa using hij)
  rw [hoi] at h2
  simp only [hm, Bool.false_or] at h2
  exact h2
theorem DrawCtx.edges (h : DrawCtx E call ops Ts Ss vs fo) {j : Nat} {oj : Oper} (hoj : ops.toList[j]? = some oj) : ∀ e ∈ oj.after.toList, Region.binds .any e = true → e.on < j := by
  have hr := h.reg
  unfold regionWf at hr
  have hj := (List.getElem?_eq_some_iff.1 hoj).1
  have h1 := List.all_eq_true.1 hr j (by simpa using hj)
  rw [hoj] at h1
  simp only [Bool.and_eq_true] at h1
  intro e he hb
  have := List.all_eq_true.1 h1.1 e he
  rw [hb] at this
  simpa [Nat.blt_eq] using this
theorem tmpApart_spec {ops : List Oper} {x y : Oper} (h : tmpApart ops x y = true) :
    (∀ t, writesTmp x t = true → t ∉ looks ops y ∧ writesTmp y t = false) ∧ (∀ t, writesTmp y t = true → t ∉ looks ops x) := by
  unfold tmpApart at h
  rw [Bool.and_eq_true] at h
  constructor
  · intro t ht
    unfold writesTmp at ht
    cases hd : x.dst with
    | none => rw [hd] at ht; cases ht
    | some d =>
      rw [hd] at ht
      have hdt := Nat.eq_of_beq_eq_true ht
      subst hdt
      have h1 := h.1
      rw [hd] at h1
      simp only [Bool.and_eq_true, Bool.not_eq_true'] at h1
      refine ⟨fun hm => ?_, h1.2⟩
      have := List.any_eq_false.1 h1.1 d hm
      simp at this
  · intro t ht
    unfold writesTmp at ht
    cases hd : y.dst with
    | none => rw [hd] at ht; cases ht
    | some d =>
      rw [hd] at ht
      have hdt := Nat.eq_of_beq_eq_true ht
      subst hdt
      have h1 := h.2
      rw [hd] at h1
      simp only [Bool.not_eq_true'] at h1
      intro hm
      have := List.any_eq_false.1 h1 d hm
      simp at this
end
end
end Go.VAbs

/-! The abstract machine, part 22: regions that draw their order are simulated. -/
namespace Go.VAbs
open Go
set_option linter.unusedVariables false
noncomputable section
set_option linter.unusedSimpArgs false

section
variable {E : Env} {call : ACall} {ops : Array Oper} {Ts : Nat → ATmps} {Ss : Nat → AS} {vs : Nat → Value} {fo : Nat → Foot}

/-- What holds when those of L have come up. -/
structure Inv (E : Env) (ops : Array Oper) (Ts : Nat → ATmps) (Ss : Nat → AS) (vs : Nat → Value) (fo : Nat → Foot) (μ0 : Mu) (w0 : World) (L : Nat → Prop) (μ : Mu) (a : Act) (w : World) : Prop where
  fr : Fr μ0 (Ss 0).get w0 μ (G Ss fo L ops.size) w
  rel : Rel μ (G Ss fo L ops.size) w
  tm : TRel μ (TT Ts vs ops.toList L ops.size) a.tmps
  dom : ∀ b, μ b ≠ none → μ0 b = none → ∃ k, k < ops.size ∧ L k ∧ (Ss k).next ≤ b ∧ b < (Ss (k + 1)).next
  defers : a.defers = []

/-- Listed: whoever has come up, what it waits for has. -/
def Closed8 (ops : Array Oper) (L : Nat → Prop) : Prop := ∀ j o, ops.toList[j]? = some o → L j → ∀ e ∈ o.after.toList, Region.binds .any e = true → L e.on

/-- A clash the other way round. -/
theorem clash_sym {f g : Foot} (h : footClash f g = false) : footClash g f = false ∨ ∃ b t k, f = .look b t k ∧ g = .ent b t k := by
  have sw : ∀ x y, Nat.beq x y = Nat.beq y x := by
    intro x y
    by_cases q : x = y
    · subst q; rfl
    · have p1 : Nat.beq x y = false := by cases hh : Nat.beq x y with | false => rfl | true => exact absurd (Nat.eq_of_beq_eq_true hh) q
      have p2 : Nat.beq y x = false := by cases hh : Nat.beq y x with | false => rfl | true => exact absurd (Nat.eq_of_beq_eq_true hh).symm q
      rw [p1, p2]
  cases f <;> cases g <;> simp only [footClash] at h ⊢ <;> first
    | exact .inl h
    | (left; rw [sw]; exact h)
    | (left; rw [Bool.or_comm]; exact h)
    | (cases h; done)
    | skip
  rename_i a t k b u l
  right
  rw [Bool.not_eq_eq_eq_not] at h
  simp only [Bool.not_false, Bool.and_eq_true] at h
  obtain ⟨⟨h1, h2⟩, h3⟩ := h
  have e1 := Nat.eq_of_beq_eq_true h1
  have e2 := Nat.eq_of_beq_eq_true h2
  have e3 := veq_eq h3
  subst e1 e2 e3
  exact ⟨_, _, _, rfl, rfl⟩

theorem clash_at {f g : Foot} {b : Nat} (h1 : footClash f g = false) (h2 : footClash g f = false) (hg : loudAt b g = true) : f = .pure ∨ (∃ c, f = .alloc c ∧ c ≠ b) ∨ (∃ c, f = .rd c ∧ c ≠ b) ∨ ∃ c t k, f = .look c t k ∧ c ≠ b := by
  cases g with
  | all l =>
    have hg : memB b l = true := hg
    have apart : ∀ c, memB c l = false → c ≠ b := by
      rintro c hc rfl
      rw [hg] at hc; cases hc
    cases f with
    | pure => exact .inl rfl
    | alloc c => exact .inr (.inl ⟨c, rfl, apart c h1⟩)
    | rd c => exact .inr (.inr (.inl ⟨c, rfl, apart c h1⟩))
    | look c t k => exact .inr (.inr (.inr ⟨c, t, k, rfl, apart c h1⟩))
    | wr c => cases h1
    | ent c t k => cases h1
    | all m =>
      exfalso
      have : l ≠ [] := by rintro rfl; cases hg
      cases l with
      | nil => exact this rfl
      | cons x r => simp [footClash] at h1
  | ent c t k => cases f <;> simp [footClash] at h1 h2 ⊢
  | _ => cases hg
theorem clash_wr {f : Foot} {b : Nat} (h1 : footClash f (.wr b) = false) : f ≠ .rd b ∧ f ≠ .wr b ∧ f ≠ .alloc b ∧ (∀ t k, f ≠ .look b t k) ∧ (∀ l, f ≠ .all l) ∧ ∀ c, loudAt c f = false := by
  refine ⟨?_, ?_, ?_, ?_, ?_, ?_⟩
  · rintro rfl; simp [footClash] at h1
  · rintro rfl; simp [footClash] at h1
  · rintro rfl; simp [footClash] at h1
  · rintro t k rfl; simp [footClash] at h1
  · rintro l rfl; simp [footClash] at h1
  · intro c; cases f <;> simp [footClash, loudAt] at h1 ⊢

theorem draw_step (hE : EnvOk E) (hc : CallOk E call) (h : DrawCtx E call ops Ts Ss vs fo) {μ0 : Mu} {w0 : World} (hG0 : GlOk E μ0) (hd0 : ∀ b, (Ss 0).next ≤ b → b < (Ss ops.size).next → μ0 b = none) {L : Nat → Prop} {μ : Mu} {a : Act} {w : World}
    (hI : Inv E ops Ts Ss vs fo μ0 w0 L μ a w) (hcl : Closed8 ops L) {i : Nat} (hi : i < ops.size) (hLi : ¬ L i) {o : Oper} (ho : ops.toList[i]? = some o) (hready : ∀ e ∈ o.after.toList, Region.binds .any e = true → L e.on)
    {Q : Exit → Act → World → Prop} {K : Act → World → Prop} (hK : ∀ μ' a' w', Inv E ops Ts Ss vs fo μ0 w0 (fun k => L k ∨ k = i) μ' a' w' → K a' w') : wpOp E.P ops Q i K a w := by
  have hce : CallExt call := ⟨hc.ext⟩
  have hcl' : Closed8 ops (fun k => L k ∨ k = i) := by
    intro j o' ho' hj e he hb
    rcases hj with hj | rfl
    · exact .inl (hcl j o' ho' hj e he hb)
    · rw [ho] at ho'; cases ho'; exact .inl (hready e he hb)
  have anc := masks_closed (ops := ops.toList) hcl ops.toList 0 [] (by simp) rfl (by intro j i hb; simp at hb)
  have anc' := masks_closed (ops := ops.toList) hcl' ops.toList 0 [] (by simp) rfl (by intro j i hb; simp at hb)
  -- an operation that has not come up and stands ahead does not order this one; one that has come up and stands behind is not ordered by it
  have un1 : ∀ k, k < i → ¬ L k → ((masks ops.toList []).getD i 0).testBit k = false := by
    intro k hk hLk
    cases hb : ((masks ops.toList []).getD i 0).testBit k with
    | false => rfl
    | true =>
      rcases anc' i k hb (.inr rfl) with q | q
      · exact absurd q hLk
      · omega
  have un2 : ∀ k, i < k → L k → ((masks ops.toList []).getD k 0).testBit i = false := by
    intro k hk hLk
    cases hb : ((masks ops.toList []).getD k 0).testBit i with
    | false => rfl
    | true => exact absurd (anc k i hb hLk) hLi
  have hfacts := h.facts hce ho
  have nle := fun {x y : Nat} (p : x ≤ y) (q : y ≤ ops.size) => h.next_le hce p q
  -- who has made a block
  have made : ∀ b, μ b ≠ none → b < (Ss ops.size).next → b < (Ss 0).next ∨ ∃ k, k < ops.size ∧ L k ∧ (Ss k).next ≤ b ∧ b < (Ss (k + 1)).next := by
    intro b hb hbn
    cases h0 : μ0 b with
    | none => exact .inr (hI.dom b hb h0)
    | some l =>
      refine .inl ?_
      rcases Nat.lt_or_ge b (Ss 0).next with q | q
      · exact q
      · rw [hd0 b q hbn] at h0; cases h0
  have mine : ∀ b k, μ b ≠ none → k < ops.size → (Ss k).next ≤ b → b < (Ss (k + 1)).next → L k := by
    intro b k hb hk h1 h2
    have hbn := nle (show k + 1 ≤ ops.size from hk) (Nat.le_refl _)
    rcases made b hb (by omega) with q | ⟨m, q1, q2, q3, q4⟩
    · have := nle (Nat.zero_le k) (by omega); omega
    · rcases Nat.lt_trichotomy m k with r | r | r
      · have := nle (show m + 1 ≤ k from r) (by omega); omega
      · subst r; exact q2
      · have := nle (show k + 1 ≤ m from r) (by omega); omega
  -- the temporaries that it looks at
  have tmOk : ∀ t, t ∈ looks ops.toList o ∨ writesTmp o t = true → (∀ k ok, k < i → ops.toList[k]? = some ok → writesTmp ok t = true → L k) ∧ (∀ k ok, i < k → L k → ops.toList[k]? = some ok → writesTmp ok t = false) := by
    intro t ht
    constructor
    · intro k ok hk hok hwr
      apply Classical.byContradiction
      intro hLk
      have := tmpApart_spec (h.tmps hk hok ho (un1 k hk hLk))
      have h1 := this.1 t hwr
      rcases ht with ht | ht
      · exact h1.1 ht
      · rw [h1.2] at ht; cases ht
    · intro k ok hk hLk hok
      cases hwr : writesTmp ok t with
      | false => rfl
      | true =>
        exfalso
        have := tmpApart_spec (h.tmps hk ho hok (un2 k hk hLk))
        rcases ht with ht | ht
        · exact this.2 t hwr ht
        · have := (this.1 t ht).2; rw [hwr] at this; cases this
  have sameT : ∀ t, t ∈ looks ops.toList o → (TT Ts vs ops.toList L ops.size).get t = (Ts i).get t := by
    intro t ht
    obtain ⟨k1, k2⟩ := tmOk t (.inl ht)
    rw [TT_last Ts vs ops.toList L t i ops.size (by omega) ?_]
    · exact h.TT_agree (by omega) k1
    · intro k ok h1 h2 h3 h4
      rcases Nat.lt_or_ge i k with q | q
      · exact k2 k ok q h3 h4
      · have : k = i := by omega
        subst this; exact absurd h3 hLi
  have evSame : ∀ x ∈ o.op.operands, ev E (TT Ts vs ops.toList L ops.size) x = ev E (Ts i) x := by
    intro x hx
    cases x with
    | tmp t =>
      simp only [ev]
      rw [sameT t]
      unfold looks
      refine List.mem_append_left _ (List.mem_filterMap.2 ⟨.tmp t, by simpa using hx, rfl⟩)
    | _ => rfl
  have wantSame : awanted ops (TT Ts vs ops.toList L ops.size) o = awanted ops (Ts i) o := by
    unfold awanted
    cases hg : o.guard with
    | none => rfl
    | some g =>
      obtain ⟨j, want⟩ := g
      simp only
      cases hd : (ops[j]?).bind (·.dst) with
      | none => rfl
      | some t =>
        simp only
        rw [sameT t]
        unfold looks
        refine List.mem_append_right _ ?_
        rw [hg]
        simp only [Array.getElem?_toList, hd]
        simp
  -- the frame behind it
  have hTT : ∀ (v' : Value) (μ' : Mu), μ.le μ' → VRel μ' (vs i) v' → TRel μ' (TT Ts vs ops.toList (fun k => L k ∨ k = i) ops.size) (a.put o.dst v').tmps := by
    intro v' μ' hle hv
    have hput : ∃ T', (TT Ts vs ops.toList L ops.size).put o.dst (vs i) = some T' := by
      have hs : ∃ T'', (Ts i).put o.dst (vs i) = some T'' := by
        rcases h.step i o ho with ⟨_, _, h3⟩ | ⟨_, h2, _, _, h5⟩
        · exact ⟨_, h3⟩
        · rw [h2]; exact ⟨_, h5⟩
      obtain ⟨T'', hs⟩ := hs
      unfold ATmps.put at hs ⊢
      cases hd : o.dst with
      | none => exact ⟨_, rfl⟩
      | some d =>
        rw [hd] at hs
        simp only at hs ⊢
        have hsz : (TT Ts vs ops.toList L ops.size).size = (Ts i).size := by
          rw [TT_size]
          have : ∀ k, k ≤ ops.size → (Ts k).size = (Ts 0).size := by
            intro k
            induction k with
            | zero => intro _; rfl
            | succ k ih =>
              intro hk
              obtain ⟨ok, hok⟩ := get_of_lt (ops := ops) (i := k) (by omega)
              rw [← ih (by omega)]
              rcases h.step k ok hok with ⟨_, _, h3⟩ | ⟨_, h2, _, _, h5⟩
              · rw [put_put' h3, put'_size]
              · rw [put_put' h5, put'_size]
          exact (this i (by omega)).symm
        rw [hsz]
        cases hlt : Nat.blt d (Ts i).size with
        | false => rw [hlt] at hs; cases hs
        | true => exact ⟨_, rfl⟩
    obtain ⟨T', hput⟩ := hput
    have hr := put_sim (hI.tm.mono hle) hv hput
    rw [put_put' hput] at hr
    refine ⟨by rw [hr.size, put'_size, TT_size, TT_size], fun t => ?_⟩
    have hg := hr.get t
    rw [put'_get] at hg
    cases hw : writesTmp o t with
    | true =>
      rw [hw, if_pos rfl] at hg
      have : (TT Ts vs ops.toList (fun k => L k ∨ k = i) ops.size).get t = vs i := by
        rw [TT_last Ts vs ops.toList _ t (i + 1) ops.size (by omega) ?_]
        · simp only [TT, ho]
          rw [if_pos (.inr rfl), put'_get, hw, if_pos rfl]
        · intro k ok h1 h2 h3 h4
          rcases h3 with h3 | h3
          · exact (tmOk t (.inr hw)).2 k ok (by omega) h3 h4
          · omega
      rw [this]; exact hg
    | false =>
      rw [hw] at hg
      simp only [Bool.false_eq_true, if_false] at hg
      have : (TT Ts vs ops.toList (fun k => L k ∨ k = i) ops.size).get t = (TT Ts vs ops.toList L ops.size).get t := by
        refine TT_congr Ts vs ops.toList _ _ t ops.size ?_
        intro k ok h1 h2 h3
        constructor
        · rintro (q | q)
          · exact q
          · subst q; rw [ho] at h2; cases h2; rw [hw] at h3; cases h3
        · exact .inl
      rw [this]; exact hg
  -- no other one has turned what this one looks at, or turns
  have order : ∀ k, k < ops.size → k ≠ i → (k < i → ¬ L k) → (i < k → L k) → (footClash (fo i) (fo k) = false ∧ footClash (fo k) (fo i) = false) ∨
      (i < k ∧ L k ∧ ∃ b t x, fo i = .look b t x ∧ fo k = .ent b t x) ∨ (k < i ∧ ∃ b t x, fo k = .look b t x ∧ fo i = .ent b t x) := by
    intro k hk hne h1 h2
    rcases Nat.lt_or_ge k i with q | q
    · have := h.apart hce q hi (un1 k q (h1 q))
      rcases clash_sym this with r | ⟨b, t, x, r1, r2⟩
      · exact .inl ⟨r, this⟩
      · exact .inr (.inr ⟨q, b, t, x, r1, r2⟩)
    · have := h.apart hce (show i < k by omega) hk (un2 k (by omega) (h2 (by omega)))
      rcases clash_sym this with r | ⟨b, t, x, r1, r2⟩
      · exact .inl ⟨this, r⟩
      · exact .inr (.inl ⟨by omega, h2 (by omega), b, t, x, r1, r2⟩)
  -- the heap at a place that this one looks at
  have heapAt : ∀ b, μ b ≠ none → b < (Ss i).next → (∀ k, k < ops.size → k ≠ i → (k < i → ¬ L k) → (i < k → L k) → fo k ≠ .wr b ∧ loudAt b (fo k) = false) → G Ss fo L ops.size b = (Ss i).get b := by
    intro b hb hlt hno
    have hw : ∀ k, k < ops.size → k ≠ i → (k < i → ¬ L k) → (i < k → L k) → ¬ wr8 Ss fo k b := by
      intro k hk hne h1 h2 hwr
      obtain ⟨n1, n2⟩ := hno k hk hne h1 h2
      rcases hwr with q | q | q
      · rcases Nat.lt_or_ge k i with r | r
        · exact h1 r (mine b k hb hk q.1 q.2)
        · have := nle (show i ≤ k by omega) (by omega); omega
      · exact n1 q
      · rw [n2] at q; cases q.1
    rw [G_last Ss fo L b i ops.size (by omega) ?_]
    · refine h.G_agree hce (by omega) ?_
      intro k hk hwr
      apply Classical.byContradiction
      intro hLk
      exact hw k (by omega) (by omega) (fun _ => hLk) (fun q => by omega) hwr
    · intro k h1 h2 h3 hwr
      have hne : k ≠ i := fun q => hLi (q ▸ h3)
      exact hw k h2 hne (fun q => by omega) (fun _ => h3) hwr
  have quiet : ∀ b, (∀ k, k < ops.size → footClash (fo i) (fo k) = false → footClash (fo k) (fo i) = false → fo k ≠ .wr b ∧ loudAt b (fo k) = false) → (∀ c t x, fo i ≠ .look c t x) →
      ∀ k, k < ops.size → k ≠ i → (k < i → ¬ L k) → (i < k → L k) → fo k ≠ .wr b ∧ loudAt b (fo k) = false := by
    intro b hq hnl k hk hne h1 h2
    rcases order k hk hne h1 h2 with ⟨q1, q2⟩ | ⟨_, _, c, t, x, q1, _⟩ | ⟨_, c, t, x, q1, _⟩
    · exact hq k hk q1 q2
    · exact absurd q1 (hnl c t x)
    · rw [q1]; exact ⟨(by intro h; cases h), rfl⟩
  have hacc : accOk E (fo i) μ (G Ss fo L ops.size) (Ss i) := by
    have old : ∀ b, (Ss i).get b ≠ none → b < (Ss i).next := by
      intro b hsome
      rcases Nat.lt_or_ge b (Ss i).next with q | q
      · exact q
      · exact absurd (h.wf hce (by omega) b q) hsome
    cases hf : fo i with
    | pure => trivial
    | alloc b => trivial
    | rd b =>
      intro hb
      have hff := hfacts.2.2
      rw [hf] at hff
      refine heapAt b hb (old b hff.2.1) (quiet b ?_ (by rw [hf]; intro c t x q; cases q))
      intro k hk q1 q2
      rw [hf] at q1 q2
      constructor
      · intro hw; rw [hw] at q1; exact (clash_wr q1).1 rfl
      · cases hl : loudAt b (fo k) with
        | false => rfl
        | true => rcases clash_at q1 q2 hl with z | ⟨c, z, z2⟩ | ⟨c, z, z2⟩ | ⟨c, t, k, z, z2⟩ <;> cases z; all_goals exact absurd rfl z2
    | wr b =>
      intro hb
      have hff := hfacts.2.2
      rw [hf] at hff
      refine heapAt b hb (old b hff.2.1) (quiet b ?_ (by rw [hf]; intro c t x q; cases q))
      intro k hk q1 q2
      rw [hf] at q1 q2
      constructor
      · intro hw; rw [hw] at q1; exact (clash_wr q1).2.1 rfl
      · cases hl : loudAt b (fo k) with
        | false => rfl
        | true => rcases clash_at q1 q2 hl with z | ⟨c, z, z2⟩ | ⟨c, z, z2⟩ | ⟨c, t, k, z, z2⟩ <;> cases z; all_goals exact absurd rfl z2
    | all l =>
      intro b hlt hb
      refine heapAt b hb hlt (quiet b ?_ (by rw [hf]; intro c t x q; cases q))
      intro k hk q1 q2
      rw [hf] at q1 q2
      constructor
      · intro hw; rw [hw] at q1; exact (clash_wr q1).2.2.2.2.1 l rfl
      · cases hl : loudAt b (fo k) with
        | false => rfl
        | true => rcases clash_at q1 q2 hl with z | ⟨c, z, z2⟩ | ⟨c, z, z2⟩ | ⟨c, t, k, z, z2⟩ <;> cases z; all_goals exact absurd rfl z2
    | ent c t x =>
      intro b hlt hb
      refine heapAt b hb hlt (quiet b ?_ (by rw [hf]; intro c t x q; cases q))
      intro k hk q1 q2
      rw [hf] at q1 q2
      constructor
      · intro hw; rw [hw] at q1; have := (clash_wr q1).2.2.2.2.2 b; cases this
      · cases hl : loudAt b (fo k) with
        | false => rfl
        | true => rcases clash_at q1 q2 hl with z | ⟨c, z, z2⟩ | ⟨c, z, z2⟩ | ⟨c, t, k, z, z2⟩ <;> cases z; all_goals exact absurd rfl z2
    | look b t x =>
      intro hb
      have hff := hfacts.2.2
      rw [hf] at hff
      have hlt := old b hff.2.1
      -- whoever writes it ahead of this one has come up
      have before : ∀ k, k < i → wr8 Ss fo k b → L k := by
        intro k hk hwr
        apply Classical.byContradiction
        intro hLk
        have hor := order k (by omega) (by omega) (fun _ => hLk) (fun q => by omega)
        rw [hf] at hor
        rcases hor with ⟨q1, q2⟩ | ⟨q, _⟩ | ⟨_, c, u, y, _, q⟩
        · rcases hwr with r | r | r
          · exact hLk (mine b k hb (by omega) r.1 r.2)
          · rw [r] at q1; exact (clash_wr q1).2.2.2.1 t x rfl
          · rcases clash_at q1 q2 r.1 with z | ⟨c, z, z2⟩ | ⟨c, z, z2⟩ | ⟨c, t, k, z, z2⟩ <;> cases z; all_goals exact absurd rfl z2
        · omega
        · cases q
      have self : ¬ wr8 Ss fo i b := by
        rintro (r | r | r)
        · rw [hff.1] at r; omega
        · rw [hf] at r; cases r
        · rw [hf] at r; cases r.1
      have chain : ∀ n, i ≤ n → n ≤ ops.size → lookExt E t x ((Ss i).get b) (G Ss fo L n b) := by
        intro n
        induction n with
        | zero =>
          intro h1 _
          have : i = 0 := by omega
          rw [this, h.G_agree hce (i := 0) (by omega) (fun k p => by omega)]
          exact .refl _ _ _ _
        | succ n ih =>
          intro h1 h2
          rcases Nat.lt_or_ge n i with h3 | h3
          · have : i = n + 1 := by omega
            rw [← this, h.G_agree hce (by omega) before]
            exact .refl _ _ _ _
          · simp only [G]
            split
            · rename_i hw
              have hne : n ≠ i := fun q => hLi (q ▸ hw.1)
              have hor := order n h2 hne (fun q => by omega) (fun _ => hw.1)
              rw [hf] at hor
              rcases hor with ⟨q1, q2⟩ | ⟨_, _, c, u, y, q1, q2⟩ | ⟨q, _⟩
              · exfalso
                rcases hw.2 with r | r | r
                · have := nle (show i ≤ n by omega) (by omega); omega
                · rw [r] at q1; exact (clash_wr q1).2.2.2.1 t x rfl
                · rcases clash_at q1 q2 r.1 with z | ⟨c, z, z2⟩ | ⟨c, z, z2⟩ | ⟨c, t, k, z, z2⟩ <;> cases z; all_goals exact absurd rfl z2
              · cases q1
                obtain ⟨on, hon⟩ := get_of_lt (ops := ops) (i := n) (by omega)
                have hfn := (h.facts hce hon).2.2
                rw [q2] at hfn
                have hag : G Ss fo L n b = (Ss n).get b := by
                  refine h.G_agree hce (by omega) ?_
                  intro k hk hwr
                  apply Classical.byContradiction
                  intro hLk
                  rcases Nat.lt_trichotomy k i with r | r | r
                  · exact hLk (before k r hwr)
                  · subst r; exact self hwr
                  · have hun : ((masks ops.toList []).getD n 0).testBit k = false := by
                      cases hb2 : ((masks ops.toList []).getD n 0).testBit k with
                      | false => rfl
                      | true => exact absurd (anc n k hb2 hw.1) hLk
                    have hap := h.apart hce hk h2 hun
                    rw [q2] at hap
                    obtain ⟨ok, hok⟩ := get_of_lt (ops := ops) (i := k) (by omega)
                    have hfk := (h.facts hce hok).2.2
                    cases hfo : fo k with
                    | pure =>
                      rw [hfo] at hfk
                      rcases hwr with s | s | s
                      · rw [hfk] at s; omega
                      · rw [hfo] at s; cases s
                      · rw [hfo] at s; cases s.1
                    | look c u y =>
                      rw [hfo] at hfk
                      rcases hwr with s | s | s
                      · rw [hfk.1] at s; omega
                      · rw [hfo] at s; cases s
                      · rw [hfo] at s; cases s.1
                    | alloc c => rw [hfo] at hap; simp [footClash] at hap
                    | rd c => rw [hfo] at hap; simp [footClash] at hap
                    | wr c => rw [hfo] at hap; simp [footClash] at hap
                    | all l => rw [hfo] at hap; simp [footClash] at hap
                    | ent c u y => rw [hfo] at hap; simp [footClash] at hap
                have hfn1 := hfn.1
                rw [← hag] at hfn1
                exact (ih (by omega) (by omega)).trans hfn1
              · omega
            · exact ih (by omega) (by omega)
      exact chain ops.size (by omega) (Nat.le_refl _)
  have hfree : ∀ b, (Ss i).next ≤ b → b < (Ss (i + 1)).next → μ b = none := by
    intro b h1 h2
    cases hb : μ b with
    | none => rfl
    | some l => exact absurd (mine b i (by rw [hb]; simp) hi h1 h2) hLi
  -- the heap behind it
  have hG' : G Ss fo (fun k => L k ∨ k = i) ops.size = delta (fo i) (Ss i) (Ss (i + 1)) (G Ss fo L ops.size) := by
    funext b
    unfold delta
    by_cases hw : writes (fo i) (Ss i) (Ss (i + 1)) b
    · rw [if_pos hw]
      rw [G_last Ss fo _ b (i + 1) ops.size (by omega) ?_]
      · simp only [G]
        rw [if_pos ⟨.inr rfl, hw⟩]
      · intro k h1 h2 h3 hwr
        rcases h3 with h3 | h3
        · have hor := order k h2 (by omega) (fun q => by omega) (fun _ => h3)
          have hff := hfacts.2.2
          have hb1 := nle (show i + 1 ≤ k by omega) (by omega)
          have hb0 := nle (show i ≤ i + 1 by omega) (by omega)
          have hor : footClash (fo i) (fo k) = false ∧ footClash (fo k) (fo i) = false := by
            rcases hor with q | ⟨_, _, c, t, x, q1, _⟩ | ⟨q, _⟩
            · exact q
            · exfalso
              rw [q1] at hff
              rcases hw with r | r | r
              · rw [hff.1] at r; omega
              · rw [q1] at r; cases r
              · rw [q1] at r; cases r.1
            · omega
          have hb : b < (Ss (i + 1)).next := by
            rcases hw with q | q | q
            · exact q.2
            · rw [q] at hff
              have hlt : b < (Ss i).next := by
                rcases Nat.lt_or_ge b (Ss i).next with z | z
                · exact z
                · exact absurd (h.wf hce (by omega) b z) hff.2.1
              omega
            · omega
          rcases hwr with r | r | r
          · omega
          · rw [r] at hor
            have hcw := clash_wr hor.1
            rcases hw with q | q | q
            · cases hf : fo i with
              | pure => rw [hf] at hff; simp only [footFacts] at hff; rw [hff] at q; omega
              | rd x => rw [hf] at hff; rw [hff.1] at q; omega
              | look x t y => rw [hf] at hff; rw [hff.1] at q; omega
              | wr x => rw [hf] at hff; rw [hff.1] at q; omega
              | alloc x =>
                rw [hf] at hff
                have hx : x = b := by have := hff.1; have := hff.2.1; omega
                rw [hf, hx] at hcw
                exact hcw.2.2.1 rfl
              | all l => rw [hf] at hcw; exact hcw.2.2.2.2.1 l rfl
              | ent x t y => rw [hf] at hcw; have := hcw.2.2.2.2.2 b; cases this
            · exact hcw.2.1 q
            · rw [hcw.2.2.2.2.2 b] at q; cases q.1
          · rcases clash_at hor.1 hor.2 r.1 with hp | ⟨c, hp, hne⟩ | ⟨c, hp, hne⟩ | ⟨c, t, x, hp, hne⟩
            · rw [hp] at hff hw
              simp only [footFacts] at hff
              rcases hw with q | q | q
              · rw [hff] at q; omega
              · cases q
              · cases q.1
            · rw [hp] at hff hw
              simp only [footFacts] at hff
              rcases hw with q | q | q
              · exact hne (by have := hff.1; have := hff.2.1; omega)
              · cases q
              · cases q.1
            · rw [hp] at hff hw
              simp only [footFacts] at hff
              rcases hw with q | q | q
              · rw [hff.1] at q; omega
              · cases q
              · cases q.1
            · rw [hp] at hff hw
              simp only [footFacts] at hff
              rcases hw with q | q | q
              · rw [hff.1] at q; omega
              · cases q
              · cases q.1
        · omega
    · rw [if_neg hw]
      refine G_congr Ss fo _ _ b ops.size ?_
      intro k _ hwr
      constructor
      · rintro (q | q)
        · exact q
        · subst q; exact absurd hwr hw
      · exact .inl
  -- the step
  have hoi : ops[i]? = some o := by simpa using ho
  unfold wpOp
  rw [hoi]
  simp only
  have hGl : GlOk E μ := hG0.mono hI.fr.ext
  rcases h.step i o ho with ⟨hw, hop, _⟩ | ⟨hw, hv, hf0, hS, _⟩
  · rw [awanted_sim hI.tm (wantSame.trans hw), if_pos rfl]
    refine .inl ?_
    rw [← aoper_congr call (Ss i) evSame] at hop
    refine aoper_step hE hc hGl hI.tm hI.rel (h.wf hce (by omega)) hfree hop hacc ?_
    intro v' w' hs
    obtain ⟨μ', f, r, n, k⟩ := hs
    rw [← hG'] at f r
    refine hK μ' _ w' ⟨hI.fr.trans f, r, hTT v' μ' f.ext k, ?_, by rw [put_defers]; exact hI.defers⟩
    intro b hb hb0
    cases hm : μ b with
    | none => have := n b hm hb; exact ⟨i, hi, .inr rfl, this.1, this.2⟩
    | some l => obtain ⟨k, q1, q2, q3⟩ := hI.dom b (by rw [hm]; simp) hb0; exact ⟨k, q1, .inl q2, q3⟩
  · rw [awanted_sim hI.tm (wantSame.trans hw)]
    simp only [Bool.false_eq_true, if_false]
    have hGs : G Ss fo (fun k => L k ∨ k = i) ops.size = G Ss fo L ops.size := by
      rw [hG', hf0, hS]; exact delta_pure _ (.inl rfl) _ _
    refine hK μ _ w ⟨by rw [hGs]; exact hI.fr, by rw [hGs]; exact hI.rel, hTT undef μ (.refl μ) (by rw [hv]; exact undef_flat μ), ?_, by rw [put_defers]; exact hI.defers⟩
    intro b hb hb0
    obtain ⟨k, q1, q2, q3⟩ := hI.dom b hb hb0; exact ⟨k, q1, .inl q2, q3⟩
end
end
end Go.VAbs

/-! The abstract machine, part 23: regions that draw their order are simulated. -/
namespace Go.VAbs
open Go
set_option linter.unusedVariables false
noncomputable section
set_option linter.unusedSimpArgs false

theorem countP_lt {p q : Nat → Bool} : ∀ (l : List Nat), (∀ x ∈ l, q x = true → p x = true) → (∃ x ∈ l, p x = true ∧ q x = false) → l.countP q < l.countP p
  | [], _, ⟨x, h, _⟩ => by simp at h
  | y :: l, h, hx => by
    have le : ∀ (l : List Nat), (∀ x ∈ l, q x = true → p x = true) → l.countP q ≤ l.countP p := fun l h => List.countP_mono_left h
    rcases hx with ⟨x, hm, h1, h2⟩
    rcases List.mem_cons.1 hm with rfl | hm
    · rw [List.countP_cons, List.countP_cons, h1, h2]
      have := le l (fun z hz => h z (List.mem_cons_of_mem _ hz))
      simp; omega
    · have ih := countP_lt l (fun z hz => h z (List.mem_cons_of_mem _ hz)) ⟨x, hm, h1, h2⟩
      rw [List.countP_cons, List.countP_cons]
      have := h y (by simp)
      cases hq : q y with
      | true => rw [this hq]; simp; omega
      | false => cases p y <;> simp <;> omega

section
variable {E : Env} {call : ACall} {ops : Array Oper} {Ts : Nat → ATmps} {Ss : Nat → AS} {vs : Nat → Value} {fo : Nat → Foot}

theorem draw_any (hE : EnvOk E) (hc : CallOk E call) (h : DrawCtx E call ops Ts Ss vs fo) {μ0 : Mu} {w0 : World} (hG0 : GlOk E μ0) (hd0 : ∀ b, (Ss 0).next ≤ b → b < (Ss ops.size).next → μ0 b = none) {Q : Exit → Act → World → Prop}
    (hQ : ∀ μ a w, Inv E ops Ts Ss vs fo μ0 w0 (fun _ => True) μ a w → Q .normal a w) : ∀ (fuel : Nat) (listed : Array Bool) (μ : Mu) (a : Act) (w : World), listed.size = ops.size →
      (List.range ops.size).countP (fun i => !listed.getD i false) ≤ fuel → Closed8 ops (fun k => listed.getD k false = true) → (∀ k, listed.getD k false = true → k < ops.size) →
      Inv E ops Ts Ss vs fo μ0 w0 (fun k => listed.getD k false = true) μ a w → wpAny E.P .any ops Q fuel listed a w := by
  -- when all have come up
  have whole : ∀ (listed : Array Bool) (μ : Mu) (a : Act) (w : World), (∀ k, k < ops.size → listed.getD k false = true) → Inv E ops Ts Ss vs fo μ0 w0 (fun k => listed.getD k false = true) μ a w → Q .normal a w := by
    intro listed μ a w hall hI
    refine hQ μ a w ?_
    have g : G Ss fo (fun _ => True) ops.size = G Ss fo (fun k => listed.getD k false = true) ops.size := by
      funext b; exact G_congr Ss fo _ _ b ops.size fun k hk _ => ⟨fun _ => hall k hk, fun _ => trivial⟩
    refine ⟨by rw [g]; exact hI.fr, by rw [g]; exact hI.rel, ?_, ?_, hI.defers⟩
    · refine ⟨by rw [hI.tm.size, TT_size, TT_size], fun t => ?_⟩
      rw [TT_congr Ts vs ops.toList _ (fun k => listed.getD k false = true) t ops.size fun k o hk _ _ => ⟨fun _ => hall k hk, fun _ => trivial⟩]
      exact hI.tm.get t
    · intro b hb hb0
      obtain ⟨k, q1, q2, q3⟩ := hI.dom b hb hb0
      exact ⟨k, q1, trivial, q3⟩
  -- if nothing is ready, all have come up
  have none_ready : ∀ (listed : Array Bool), listed.size = ops.size → Region.ready .any ops listed = [] → ∀ k, k < ops.size → listed.getD k false = true := by
    intro listed hsz hr k
    induction k using Nat.strongRecOn with
    | _ k ih =>
      intro hk
      cases hlk : listed.getD k false with
      | true => rfl
      | false =>
        exfalso
        have hmem : k ∈ Region.ready .any ops listed := by
          unfold Region.ready
          rw [List.mem_filter]
          refine ⟨by simpa using hk, ?_⟩
          have h1 : listed.getD k true = false := by
            have hlt : k < listed.size := by omega
            simp [Array.getD_eq_getD_getElem?, hlt] at hlk ⊢
            exact hlk
          rw [h1]
          have ho : ops[k]? = some ops[k] := by simp [hk]
          rw [ho]
          simp only [Bool.not_false, Bool.true_and, Option.map_some, Option.getD_some]
          rw [Array.all_eq_true]
          intro j hj
          have hho : ops.toList[k]? = some ops[k] := by simp [hk]
          cases hb : Region.binds .any ops[k].after[j] with
          | false => rfl
          | true =>
            have hlt := h.edges hho ops[k].after[j] (by simp) hb
            rw [ih _ hlt (by omega)]; rfl
        rw [hr] at hmem; cases hmem
  intro fuel
  induction fuel with
  | zero =>
    intro listed μ a w hsz hcnt hcl hin hI
    have hall : ∀ k, k < ops.size → listed.getD k false = true := by
      intro k hk
      have : (List.range ops.size).countP (fun i => !listed.getD i false) = 0 := by omega
      rw [List.countP_eq_zero] at this
      have := this k (by simpa using hk)
      simpa using this
    refine ⟨?_, whole listed μ a w hall hI⟩
    unfold Region.ready
    rw [List.filter_eq_nil_iff]
    intro k hk
    have hk' : k < ops.size := by simpa using hk
    have h1 : listed.getD k true = true := by
      have hlt : k < listed.size := by omega
      have := hall k hk'
      simp [Array.getD_eq_getD_getElem?, hlt] at this ⊢
      exact this
    rw [h1]
    simp
  | succ fuel ih =>
    intro listed μ a w hsz hcnt hcl hin hI
    refine ⟨fun hr => whole listed μ a w (none_ready listed hsz hr) hI, ?_⟩
    intro i hi
    unfold Region.ready at hi
    rw [List.mem_filter] at hi
    obtain ⟨hi1, hi2⟩ := hi
    have hlt : i < ops.size := by simpa using hi1
    have hltl : i < listed.size := by omega
    rw [Bool.and_eq_true] at hi2
    have hnot : listed.getD i false = false := by
      have := hi2.1
      simp [Array.getD_eq_getD_getElem?, hltl] at this ⊢
      exact this
    have ho : ops.toList[i]? = some ops[i] := by simp [hlt]
    have hrdy : ∀ e ∈ ops[i].after.toList, Region.binds .any e = true → listed.getD e.on false = true := by
      intro e he hb
      have h2 := hi2.2
      have hoi : ops[i]? = some ops[i] := by simp [hlt]
      rw [hoi] at h2
      simp only [Option.map_some, Option.getD_some] at h2
      rw [Array.all_eq_true'] at h2
      have := h2 e (Array.mem_toList_iff.1 he)
      rw [hb] at this
      simpa using this
    refine draw_step hE hc h hG0 hd0 hI hcl hlt (by rw [hnot]; simp) ho hrdy ?_
    intro μ' a' w' hI'
    have hset : ∀ k, (listed.setIfInBounds i true).getD k false = true ↔ (listed.getD k false = true ∨ k = i) := by
      intro k
      simp only [Array.getD_eq_getD_getElem?, Array.getElem?_setIfInBounds]
      by_cases q : i = k
      · subst q; rw [if_pos rfl, if_pos hltl]; simp
      · rw [if_neg q]
        constructor
        · exact .inl
        · rintro (r | r)
          · exact r
          · exact absurd r.symm q
    have hfun : (fun k => (listed.setIfInBounds i true).getD k false = true) = (fun k => listed.getD k false = true ∨ k = i) := by
      funext k; exact propext (hset k)
    refine ih (listed.setIfInBounds i true) μ' a' w' (by simpa using hsz) ?_ ?_ ?_ (by rw [hfun]; exact hI')
    · have := countP_lt (p := fun k => !listed.getD k false) (q := fun k => !(listed.setIfInBounds i true).getD k false) (List.range ops.size) ?_ ⟨i, hi1, by rw [hnot]; rfl, ?_⟩
      · omega
      · intro x _ hx
        have hx' : ¬ (listed.setIfInBounds i true).getD x false = true := by
          intro q; rw [q] at hx; cases hx
        rw [hset] at hx'
        cases hh : listed.getD x false with
        | false => rfl
        | true => exact absurd (.inl hh) hx'
      · have := (hset i).2 (.inr rfl)
        rw [this]; rfl
    · rw [hfun]
      intro j o' ho' hj e he hb
      rcases hj with hj | rfl
      · exact .inl (hcl j o' ho' hj e he hb)
      · rw [ho] at ho'; cases ho'; exact .inl (hrdy e he hb)
    · intro k hk
      rw [hset] at hk
      rcases hk with q | q
      · exact hin k q
      · omega

theorem mem_pairsOf {ops : Array Oper} {i j : Nat} (hij : i < j) (hj : j < ops.size) (h : pairAt (masks ops.toList []) ops.toList i j = true) : (i, j) ∈ pairsOf ops := by
  unfold pairsOf
  simp only [List.mem_flatMap, List.mem_map, List.mem_filter, List.mem_range]
  exact ⟨j, by simpa using hj, i, ⟨hij, h⟩, rfl⟩

/-- A region that draws its order. -/
theorem aops_draw (hE : EnvOk E) (hm : E.P.follows .mixedOrders = true) (hc : CallOk E call) {T T' : ATmps} {σ σ' : AS} {fs : List Foot} {μ : Mu} {w : World} {a : Act} (hG : GlOk E μ) (hT : TRel μ T a.tmps) (hR : Rel μ σ.get w)
    (wf : ∀ b, σ.next ≤ b → σ.get b = none) (hd : ∀ b, σ.next ≤ b → b < σ'.next → μ b = none) (hdef : a.defers = []) (e : aops E call ops ops.toList T σ = some (T', σ', fs)) (hreg : regionWf ops = true) (hcl : noClash fs (pairsOf ops) = true)
    {id : Nat} {Q : Exit → Act → World → Prop} (hQ : ∀ a' w', a'.defers = [] → Sim μ σ.get w σ.next σ'.next σ'.get w' (fun μ' => TRel μ' T' a'.tmps) → Q .normal a' w') : (Code.region id ops true).wp E.P Q a w := by
  obtain ⟨Ts, Ss, vs, fo, h1, h2, h3, h4, h5, h6⟩ := trace_of ops.toList T σ T' σ' fs e
  have hlen : ops.toList.length = ops.size := by simp
  rw [hlen] at h3 h4 h5
  have ctx : DrawCtx E call ops Ts Ss vs fo := by
    refine ⟨h6, by rw [h2]; exact wf, hreg, ?_⟩
    intro i j hij hj hp
    have hmem := mem_pairsOf hij hj hp
    have := List.all_eq_true.1 hcl (i, j) hmem
    simp only [h5 i (by omega), h5 j hj, Bool.not_eq_true'] at this
    exact this
  have hce : CallExt call := ⟨hc.ext⟩
  refine wp_region_any hm ?_
  have start : Inv E ops Ts Ss vs fo μ { w with drawn := w.drawn + 1 } (fun k => (Array.replicate ops.size false).getD k false = true) μ a { w with drawn := w.drawn + 1 } := by
    have hno : ∀ k, ¬ (Array.replicate ops.size false).getD k false = true := by
      intro k
      simp [Array.getD_eq_getD_getElem?, Array.getElem?_replicate]
      split <;> simp
    have g : G Ss fo (fun k => (Array.replicate ops.size false).getD k false = true) ops.size = (Ss 0).get := by
      funext b
      exact G_last Ss fo _ b 0 ops.size (by omega) fun k _ _ q => absurd q (hno k)
    refine ⟨by rw [g]; exact .refl _ _ _, by rw [g, h2]; exact hR.draw rfl, ?_, fun b hb hb0 => absurd hb0 hb, hdef⟩
    refine ⟨by rw [hT.size, TT_size, h1], fun t => ?_⟩
    rw [TT_last Ts vs ops.toList _ t 0 ops.size (by omega) fun k o _ _ q => absurd q (hno k)]
    simp only [TT, h1]
    exact hT.get t
  refine draw_any hE hc ctx (w0 := { w with drawn := w.drawn + 1 }) hG (by rw [h2, h4]; exact hd) ?_ ops.size (Array.replicate ops.size false) μ a _ (by simp) ?_ ?_ ?_ start
  · intro μ' a' w' hI
    have g : G Ss fo (fun _ => True) ops.size = (Ss ops.size).get := by
      funext b; exact ctx.G_agree hce (Nat.le_refl _) fun _ _ _ => trivial
    have hfr := hI.fr
    have hrel := hI.rel
    rw [g, h4] at hfr hrel
    rw [h2] at hfr
    refine hQ a' w' hI.defers ⟨μ', (Fr.draw (w' := { w with drawn := w.drawn + 1 }) rfl).trans hfr, hrel, ?_, ?_⟩
    · intro b hb hb'
      obtain ⟨k, q1, _, q3, q4⟩ := hI.dom b hb' hb
      have p1 := ctx.next_le hce (Nat.zero_le k) (by omega)
      have p2 := ctx.next_le hce (show k + 1 ≤ ops.size by omega) (Nat.le_refl _)
      rw [h2] at p1
      rw [h4] at p2
      omega
    · have htm := hI.tm
      refine ⟨?_, fun t => ?_⟩
      · rw [htm.size, TT_size, ← h3]
        have : ∀ k, k ≤ ops.size → (Ts k).size = (Ts 0).size := by
          intro k
          induction k with
          | zero => intro _; rfl
          | succ k ih =>
            intro hk
            obtain ⟨ok, hok⟩ := get_of_lt (ops := ops) (i := k) (by omega)
            rw [← ih (by omega)]
            rcases ctx.step k ok hok with ⟨_, _, h3⟩ | ⟨_, h2, _, _, h5⟩
            · rw [put_put' h3, put'_size]
            · rw [put_put' h5, put'_size]
        exact (this _ (Nat.le_refl _)).symm
      · have := htm.get t
        rw [ctx.TT_agree (Nat.le_refl _) fun _ _ _ _ _ => trivial, h3] at this
        exact this
  · have := List.countP_le_length (p := fun i => !(Array.replicate ops.size false).getD i false) (l := List.range ops.size)
    simpa using this
  · intro j o _ hj
    exfalso
    revert hj
    simp [Array.getD_eq_getD_getElem?, Array.getElem?_replicate]
    split <;> simp
  · intro k hk
    exfalso
    revert hk
    simp [Array.getD_eq_getD_getElem?, Array.getElem?_replicate]
    split <;> simp
end
end
end Go.VAbs

/-! The abstract machine, part 24: code, functions, calls: what the abstract machine says, the model does. -/
namespace Go.VAbs
open Go
set_option linter.unusedVariables false
noncomputable section
set_option linter.unusedSimpArgs false

def AExit.conc : AExit → Exit
  | .normal => .normal
  | .exit id => .exit id
  | .ret => .ret

section
variable {E : Env} {call : ACall}

/-- How code ends. -/
def CodePost (μ : Mu) (w : World) (σ : AS) (ex : AExit) (T' : ATmps) (σ' : AS) (e : Exit) (a' : Act) (w' : World) : Prop :=
  e = ex.conc ∧ a'.defers = [] ∧ Sim μ σ.get w σ.next σ'.next σ'.get w' (fun μ' => TRel μ' T' a'.tmps)

structure CodeIn (E : Env) (hi : Nat) (μ : Mu) (T : ATmps) (σ : AS) (a : Act) (w : World) : Prop where
  gl : GlOk E μ
  tm : TRel μ T a.tmps
  rel : Rel μ σ.get w
  wf : ∀ b, σ.next ≤ b → σ.get b = none
  dom : ∀ b, σ.next ≤ b → b < hi → μ b = none
  defers : a.defers = []

theorem CodeIn.next {hi : Nat} {μ : Mu} {T T' : ATmps} {σ σ' : AS} {a a' : Act} {w w' : World} (h : CodeIn E hi μ T σ a w) (hx : ASExt σ σ') (hd : a'.defers = []) (hs : Sim μ σ.get w σ.next σ'.next σ'.get w' (fun μ' => TRel μ' T' a'.tmps)) :
    ∃ μ', CodeIn E hi μ' T' σ' a' w' ∧ ∀ {σ2 : AS} {w2 : World} {K : Mu → Prop}, ASExt σ' σ2 → Sim μ' σ'.get w' σ'.next σ2.next σ2.get w2 K → Sim μ σ.get w σ.next σ2.next σ2.get w2 K := by
  obtain ⟨μ', f, r, n, k⟩ := hs
  refine ⟨μ', ⟨h.gl.mono f.ext, k, r, hx.wf h.wf, ?_, hd⟩, ?_⟩
  · intro b hb hb2
    cases hm : μ' b with
    | none => rfl
    | some l =>
      cases hm0 : μ b with
      | none => have := n b hm0 (by rw [hm]; simp); omega
      | some l0 => have := h.dom b (Nat.le_trans hx.next hb) hb2; rw [hm0] at this; cases this
  · rintro σ2 w2 K hx2 ⟨μ2, f2, r2, n2, k2⟩
    refine ⟨μ2, f.trans f2, r2, ?_, k2⟩
    intro b hb hb2
    have h1 := hx.next
    have h2 := hx2.next
    cases hm1 : μ' b with
    | some l => have := n b hb (by rw [hm1]; simp); omega
    | none => have := n2 b hm1 hb2; omega

theorem acode_ext (hc : CallExt call) (k : Nat) : ∀ (c : Code) (T : ATmps) (σ : AS) (ex : AExit) (T' : ATmps) (σ' : AS), acode E call k c T σ = some (ex, T', σ') → ASExt σ σ' := by
  have loop : ∀ (run : ATmps → AS → Option (AExit × ATmps × AS)), (∀ T σ ex T' σ', run T σ = some (ex, T', σ') → ASExt σ σ') → ∀ (n : Nat) (T : ATmps) (σ : AS) (ex : AExit) (T' : ATmps) (σ' : AS), aloop run n T σ = some (ex, T', σ') → ASExt σ σ' := by
    intro run hr n
    induction n with
    | zero => intro T σ ex T' σ' h; simp [aloop] at h
    | succ n ih =>
      intro T σ ex T' σ' h
      simp only [aloop] at h
      split at h
      · rename_i T1 σ1 h1
        exact (hr _ _ _ _ _ h1).trans (ih _ _ _ _ _ h)
      · rename_i ex1 T1 σ1 _ h1
        simp only [Option.some.injEq, Prod.mk.injEq] at h
        obtain ⟨rfl, rfl, rfl⟩ := h
        exact hr _ _ _ _ _ h1
      · cases h
  intro c
  induction c with
  | skip => intro T σ ex T' σ' h; simp only [acode, Option.some.injEq, Prod.mk.injEq] at h; obtain ⟨_, _, rfl⟩ := h; exact .refl _
  | label l => intro T σ ex T' σ' h; simp only [acode, Option.some.injEq, Prod.mk.injEq] at h; obtain ⟨_, _, rfl⟩ := h; exact .refl _
  | region id ops draw =>
    intro T σ ex T' σ' h
    cases draw with
    | false =>
      simp only [acode] at h
      split at h
      · rename_i h1
        simp only [Option.some.injEq, Prod.mk.injEq] at h
        obtain ⟨_, rfl, rfl⟩ := h
        exact aops_ext hc _ _ _ _ _ _ h1
      · cases h
    | true =>
      simp only [acode, cond_eq_ite] at h
      split at h
      · rename_i h1
        split at h
        · simp only [Option.some.injEq, Prod.mk.injEq] at h
          obtain ⟨_, rfl, rfl⟩ := h
          exact aops_ext hc _ _ _ _ _ _ h1
        · cases h
      · cases h
  | seq x y ih1 ih2 =>
    intro T σ ex T' σ' h
    simp only [acode] at h
    split at h
    · rename_i h1
      exact (ih1 _ _ _ _ _ h1).trans (ih2 _ _ _ _ _ h)
    · exact ih1 _ _ _ _ _ h
  | cond c x y ih1 ih2 =>
    intro T σ ex T' σ' h
    simp only [acode] at h
    split at h
    · exact ih1 _ _ _ _ _ h
    · exact ih2 _ _ _ _ _ h
    · cases h
  | block id b ih =>
    intro T σ ex T' σ' h
    simp only [acode, cond_eq_ite] at h
    split at h
    · rename_i h1
      split at h
      · simp only [Option.some.injEq, Prod.mk.injEq] at h
        obtain ⟨_, rfl, rfl⟩ := h
        exact ih _ _ _ _ _ h1
      · simp only [Option.some.injEq, Prod.mk.injEq] at h
        obtain ⟨_, rfl, rfl⟩ := h
        exact ih _ _ _ _ _ h1
    · exact ih _ _ _ _ _ h
  | loop b ih => intro T σ ex T' σ' h; simp only [acode] at h; exact loop _ ih k _ _ _ _ _ h
  | scope b ih => intro T σ ex T' σ' h; simp only [acode] at h; exact ih _ _ _ _ _ h
  | exit id => intro T σ ex T' σ' h; simp only [acode, Option.some.injEq, Prod.mk.injEq] at h; obtain ⟨_, _, rfl⟩ := h; exact .refl _
  | ret => intro T σ ex T' σ' h; simp only [acode, Option.some.injEq, Prod.mk.injEq] at h; obtain ⟨_, _, rfl⟩ := h; exact .refl _
  | _ => intro T σ ex T' σ' h; simp [acode] at h

/-- A loop, round by round. -/
theorem wp_loop_by {P : Program} {c : Code} {Q : Exit → Act → World → Prop} (I : Nat → Act → World → Prop) (h : ∀ n a w, I n a w → ∃ m, n = m + 1 ∧ c.wp P (Exit.then (I m) Q) a w) : ∀ (n : Nat) (a : Act) (w : World), I n a w → (Code.loop c).wp P Q a w := by
  have key : ∀ (n : Nat) (a : Act) (w : World), I n a w → ∀ (b : Frame) (k : List Item) (cs : List Frame),
      ∃ e a' w', Q e a' w' ∧ Arrives P (lone (b.at a (.code c :: .inLoop c :: k)) cs w) b k cs e a' w' := by
    intro n
    induction n with
    | zero => intro a w hI; obtain ⟨m, hm, _⟩ := h 0 a w hI; omega
    | succ n ih =>
      intro a w hI b k cs
      obtain ⟨m, hm, hw⟩ := h (n + 1) a w hI
      have hmn : m = n := by omega
      subst hmn
      obtain ⟨e, a₁, w₁, hq, harr⟩ := hw b (.inLoop c :: k) cs
      cases e with
      | normal =>
        obtain ⟨e₂, a₂, w₂, hq₂, harr₂⟩ := ih a₁ w₁ hq b k cs
        exact ⟨e₂, a₂, w₂, hq₂, .of_steps (Steps.trans harr (.one step_inLoop)) harr₂⟩
      | exit id => exact ⟨_, a₁, w₁, hq, .pass (x := .inLoop c) rfl (fun _ _ => .inl (by simp)) harr⟩
      | goto l => exact ⟨_, a₁, w₁, hq, .pass (x := .inLoop c) rfl (fun _ _ => .inl (by simp)) harr⟩
      | ret => exact ⟨_, a₁, w₁, hq, .pass (x := .inLoop c) rfl (fun _ _ => .inl (by simp)) harr⟩
      | panic ch => exact ⟨_, a₁, w₁, hq, .pass (x := .inLoop c) rfl (fun _ _ => .inl (by simp)) harr⟩
      | outgrown => exact ⟨_, a₁, w₁, hq, .pass (x := .inLoop c) rfl (fun _ _ => .inl (by simp)) harr⟩
  intro n a w hI b k cs
  obtain ⟨e, a', w', hq, harr⟩ := key n a w hI b k cs
  exact ⟨e, a', w', hq, .of_steps (.one step_loop) harr⟩

theorem acode_sim (hE : EnvOk E) (hm : E.P.follows .mixedOrders = true) (hc : CallOk E call) (k : Nat) : ∀ (c : Code) (T : ATmps) (σ : AS) (ex : AExit) (T' : ATmps) (σ' : AS) (hi : Nat) (μ : Mu) (a : Act) (w : World), codeWf c = true → acode E call k c T σ = some (ex, T', σ') → σ'.next ≤ hi →
    CodeIn E hi μ T σ a w → c.wp E.P (CodePost μ w σ ex T' σ') a w := by
  have hce : CallExt call := ⟨hc.ext⟩
  intro c
  induction c with
  | skip =>
    intro T σ ex T' σ' hh μ a w _ h hle hi
    simp only [acode, Option.some.injEq, Prod.mk.injEq] at h
    obtain ⟨rfl, rfl, rfl⟩ := h
    exact wp_skip ⟨rfl, hi.defers, Sim.pure hi.rel _ _ hi.tm⟩
  | label l =>
    intro T σ ex T' σ' hh μ a w _ h hle hi
    simp only [acode, Option.some.injEq, Prod.mk.injEq] at h
    obtain ⟨rfl, rfl, rfl⟩ := h
    exact wp_label ⟨rfl, hi.defers, Sim.pure hi.rel _ _ hi.tm⟩
  | region id ops draw =>
    intro T σ ex T' σ' hh μ a w hwf h hle hi
    cases draw with
    | false =>
      simp only [acode] at h
      split at h
      · rename_i h1
        simp only [Option.some.injEq, Prod.mk.injEq] at h
        obtain ⟨rfl, rfl, rfl⟩ := h
        refine wp_region ?_
        have hj : ∀ j, ops.toList[j]? = ops[0 + j]? := by intro j; simp
        rw [List.range_eq_range', show ops.size = ops.toList.length from by simp]
        exact aops_seq hE hc ops.toList 0 T σ _ _ _ μ w a hj hi.gl hi.tm hi.rel hi.wf (fun b p q => hi.dom b p (by omega)) hi.defers h1 (fun a' w' hd hs => ⟨rfl, hd, hs⟩)
      · cases h
    | true =>
      simp only [acode, cond_eq_ite] at h
      split at h
      · rename_i h1
        split at h
        · rename_i hcl
          simp only [Option.some.injEq, Prod.mk.injEq] at h
          obtain ⟨rfl, rfl, rfl⟩ := h
          exact aops_draw hE hm hc hi.gl hi.tm hi.rel hi.wf (fun b p q => hi.dom b p (by omega)) hi.defers h1 hwf hcl (fun a' w' hd hs => ⟨rfl, hd, hs⟩)
        · cases h
      · cases h
  | seq x y ih1 ih2 =>
    intro T σ ex T' σ' hh μ a w hwf h hle hi
    simp only [codeWf, Bool.and_eq_true] at hwf
    simp only [acode] at h
    split at h
    · rename_i T1 σ1 h1
      have hx2 := acode_ext hce k _ _ _ _ _ _ h
      refine wp_seq (wp_mono (ih1 _ _ _ _ _ hh μ a w hwf.1 h1 (Nat.le_trans hx2.next hle) hi) ?_)
      rintro e a1 w1 ⟨rfl, hd, hs⟩
      obtain ⟨μ1, hi1, htr⟩ := hi.next (acode_ext hce k _ _ _ _ _ _ h1) hd hs
      refine wp_mono (ih2 _ _ _ _ _ hh μ1 a1 w1 hwf.2 h hle hi1) ?_
      rintro e a2 w2 ⟨rfl, hd2, hs2⟩
      exact ⟨rfl, hd2, htr (acode_ext hce k _ _ _ _ _ _ h) hs2⟩
    · rename_i hne
      refine wp_seq (wp_mono (ih1 _ _ _ _ _ hh μ a w hwf.1 h hle hi) ?_)
      rintro e a1 w1 ⟨rfl, hd, hs⟩
      cases ex with
      | normal => exact (hne _ _ h).elim
      | exit id => exact ⟨rfl, hd, hs⟩
      | ret => exact ⟨rfl, hd, hs⟩
  | cond c x y ih1 ih2 =>
    intro T σ ex T' σ' hh μ a w hwf h hle hi
    simp only [codeWf, Bool.and_eq_true] at hwf
    simp only [acode] at h
    split at h
    · rename_i hc1
      exact wp_cond_true ((ev_sim hi.gl hi.tm hc1).eq_of_flat rfl) (ih1 _ _ _ _ _ hh μ a w hwf.1 h hle hi)
    · rename_i hc1
      exact wp_cond_false ((ev_sim hi.gl hi.tm hc1).eq_of_flat rfl) (ih2 _ _ _ _ _ hh μ a w hwf.2 h hle hi)
    · cases h
  | block id b ih =>
    intro T σ ex T' σ' hh μ a w hwf h hle hi
    simp only [acode, cond_eq_ite] at h
    split at h
    · rename_i id' T1 σ1 h1
      have hn1 : σ1.next ≤ hh := by
        split at h
        · simp only [Option.some.injEq, Prod.mk.injEq] at h; rw [h.2.2]; exact hle
        · simp only [Option.some.injEq, Prod.mk.injEq] at h; rw [h.2.2]; exact hle
      refine wp_block (wp_mono (ih _ _ _ _ _ hh μ a w hwf h1 hn1 hi) ?_)
      rintro e a1 w1 ⟨rfl, hd, hs⟩
      simp only [AExit.conc, Exit.inBlock]
      split at h
      · rename_i hb
        simp only [Option.some.injEq, Prod.mk.injEq] at h
        obtain ⟨rfl, rfl, rfl⟩ := h
        rw [if_pos (Nat.eq_of_beq_eq_true hb)]
        exact ⟨rfl, hd, hs⟩
      · rename_i hb
        simp only [Option.some.injEq, Prod.mk.injEq] at h
        obtain ⟨rfl, rfl, rfl⟩ := h
        rw [if_neg (fun e => hb (by rw [e]; exact Nat.beq_refl id))]
        exact ⟨rfl, hd, hs⟩
    · rename_i hne
      refine wp_block (wp_mono (ih _ _ _ _ _ hh μ a w hwf h hle hi) ?_)
      rintro e a1 w1 ⟨rfl, hd, hs⟩
      cases ex with
      | normal => exact ⟨rfl, hd, hs⟩
      | exit id' => exact (hne _ _ _ h).elim
      | ret => exact ⟨rfl, hd, hs⟩
  | scope b ih =>
    intro T σ ex T' σ' hh μ a w hwf h hle hi
    simp only [acode] at h
    refine wp_scope_straight (wp_mono (ih _ _ _ _ _ hh μ a w hwf h hle hi) ?_)
    rintro e a1 w1 ⟨rfl, hd, hs⟩
    cases ex with
    | normal => exact ⟨rfl, hd, hs⟩
    | exit id => exact ⟨rfl, hd, hs⟩
    | ret => exact ⟨rfl, hd, hs⟩
  | loop b ih =>
    intro T σ ex T' σ' hh μ a w hwf h hle hi
    simp only [acode] at h
    have loopExt : ∀ (m : Nat) (T : ATmps) (σ : AS) (ex : AExit) (T' : ATmps) (σ' : AS), aloop (acode E call k b) m T σ = some (ex, T', σ') → ASExt σ σ' := by
      intro m
      induction m with
      | zero => intro T σ ex T' σ' h; simp [aloop] at h
      | succ m ihm =>
        intro T σ ex T' σ' h
        simp only [aloop] at h
        split at h
        · rename_i h1
          exact (acode_ext hce k _ _ _ _ _ _ h1).trans (ihm _ _ _ _ _ h)
        · rename_i h1
          simp only [Option.some.injEq, Prod.mk.injEq] at h
          obtain ⟨rfl, rfl, rfl⟩ := h
          exact acode_ext hce k _ _ _ _ _ _ h1
        · cases h
    let I : Nat → Act → World → Prop := fun n a1 w1 => ∃ T1 σ1 μ1, CodeIn E hh μ1 T1 σ1 a1 w1 ∧ aloop (acode E call k b) n T1 σ1 = some (ex, T', σ') ∧
      ∀ {w2 : World} {K : Mu → Prop}, Sim μ1 σ1.get w1 σ1.next σ'.next σ'.get w2 K → Sim μ σ.get w σ.next σ'.next σ'.get w2 K
    refine wp_loop_by I ?_ k a w ⟨T, σ, μ, hi, h, fun hs => hs⟩
    rintro n a1 w1 ⟨T1, σ1, μ1, hi1, hl, htr⟩
    cases n with
    | zero => simp [aloop] at hl
    | succ n =>
      refine ⟨n, rfl, ?_⟩
      simp only [aloop] at hl
      split at hl
      · rename_i T2 σ2 h2
        have hn2 : σ2.next ≤ hh := Nat.le_trans (loopExt n _ _ _ _ _ hl).next hle
        refine wp_mono (ih _ _ _ _ _ hh μ1 a1 w1 hwf h2 hn2 hi1) ?_
        rintro e a2 w2 ⟨rfl, hd, hs⟩
        obtain ⟨μ2, hi2, htr2⟩ := hi1.next (acode_ext hce k _ _ _ _ _ _ h2) hd hs
        refine ⟨T2, σ2, μ2, hi2, hl, ?_⟩
        intro w3 K hs3
        refine htr (htr2 ?_ hs3)
        -- the rest's own extension
        exact loopExt n _ _ _ _ _ hl
      · rename_i ex1 T2 σ2 hne h2
        simp only [Option.some.injEq, Prod.mk.injEq] at hl
        obtain ⟨rfl, rfl, rfl⟩ := hl
        refine wp_mono (ih _ _ _ _ _ hh μ1 a1 w1 hwf h2 hle hi1) ?_
        rintro e a2 w2 ⟨rfl, hd, hs⟩
        cases ex1 with
        | normal => exact (hne rfl).elim
        | exit id => exact ⟨rfl, hd, htr hs⟩
        | ret => exact ⟨rfl, hd, htr hs⟩
      · cases hl
  | exit id =>
    intro T σ ex T' σ' hh μ a w _ h hle hi
    simp only [acode, Option.some.injEq, Prod.mk.injEq] at h
    obtain ⟨rfl, rfl, rfl⟩ := h
    exact wp_exit ⟨rfl, hi.defers, Sim.pure hi.rel _ _ hi.tm⟩
  | ret =>
    intro T σ ex T' σ' hh μ a w _ h hle hi
    simp only [acode, Option.some.injEq, Prod.mk.injEq] at h
    obtain ⟨rfl, rfl, rfl⟩ := h
    exact wp_ret ⟨rfl, hi.defers, Sim.pure hi.rel _ _ hi.tm⟩
  | _ => intro T σ ex T' σ' hh μ a w _ h; simp [acode] at h
end
end
end Go.VAbs

/-! The abstract machine, part 25: functions and calls. -/
namespace Go.VAbs
open Go
set_option linter.unusedVariables false
noncomputable section
set_option linter.unusedSimpArgs false

def PrimOk (E : Env) (n : Nat) (g : List Value → AS → Option (Value × AS)) : Prop :=
  (∀ args σ v σ', g args σ = some (v, σ') → ASExt σ σ') ∧ (∀ args σ v σ', (∀ b, σ.next ≤ b → σ.get b = none) → g args σ = some (v, σ') → CallSim E n args σ v σ')

structure ProgOk (E : Env) : Prop extends EnvOk E where
  mixed : E.P.follows .mixedOrders = true
  name : ∀ n fn, E.fn n = some fn → (fn.name == "runtime.NumGoroutine") = false
  code : ∀ n fn c, E.fn n = some fn → fn.body = some c → codeWf c = true
  prim : ∀ n g, E.prim n = some g → PrimOk E n g
  primFn : ∀ n g, E.prim n = some g → ∃ fn, E.P.funcs[n]? = some fn ∧ fn.body.isNone = false ∧ (fn.name == "runtime.NumGoroutine") = false

theorem startTr_get : ∀ (l : List Value) (i : Nat) (t : Tr Value) (j : Nat), (startTr l i t).get j = if i ≤ j ∧ j < i + l.length then l[j - i]? else t.get j
  | [], i, t, j => by simp only [startTr, List.length_nil]; rw [if_neg (by omega)]
  | v :: l, i, t, j => by
    simp only [startTr]
    rw [startTr_get l (i + 1) (t.set i v) j, Tr.get_set]
    simp only [List.length_cons]
    by_cases h1 : j = i
    · subst h1
      rw [if_neg (by omega), if_pos rfl, if_pos (by omega)]
      simp
    · by_cases h2 : i + 1 ≤ j ∧ j < i + 1 + l.length
      · rw [if_pos h2, if_pos (by omega), show j - i = (j - (i + 1)) + 1 from by omega, List.getElem?_cons_succ]
      · rw [if_neg h2, if_neg h1, if_neg (by omega)]

theorem start_rel {μ : Mu} {args : List Value} {args' : Array Value} (h : VRels μ args.toArray args') (n : Nat) :
    TRel μ { tr := startTr args 0 .e, size := args.length + (n - args.length) } (args' ++ Array.replicate (n - args'.size) undef) := by
  have hs := h.1
  simp only [List.size_toArray] at hs
  refine ⟨by simp only [Array.size_append, Array.size_replicate, ← hs], fun t => ?_⟩
  simp only [ATmps.get, startTr_get]
  have e0 : (Tr.e : Tr Value).get t = none := rfl
  rw [e0]
  simp only [Array.getD_eq_getD_getElem?, Array.getElem?_append]
  by_cases ht : t < args.length
  · rw [if_pos (by omega), if_pos (by omega)]
    simp only [Nat.sub_zero]
    have h1 : args[t]? = some args[t] := List.getElem?_eq_getElem ht
    have ht' : t < args'.size := by omega
    have h2 : args'[t]? = some args'[t] := Array.getElem?_eq_getElem ht'
    rw [h1, h2]
    exact h.2 t _ _ (by simp [h1]) h2
  · rw [if_neg (by omega), if_neg (by omega)]
    rw [Array.getElem?_replicate]
    split <;> exact undef_flat μ

section
variable {E : Env}

theorem ares_sim (hE : EnvOk E) {μ : Mu} {T : ATmps} {σ : AS} {tmps : Array Value} {w : World} (hT : TRel μ T tmps) (hR : Rel μ σ.get w) : ∀ {rs : List ResultVar} {l : List Value}, ares E T σ rs = some l →
    ∃ l' : List Value, (rs.mapM (m := Sem) fun | .tmp t => pure (tmps.getD t undef) | .cell a t => do loadVar t (← asAddr (tmps.getD a undef))).run E.P w = .ok l' w ∧ VRels μ l.toArray l'.toArray
  | [], l, h => by simp only [ares, Option.some.injEq] at h; subst h; exact ⟨[], by simp, VRels.nil μ⟩
  | .tmp t :: r, l, h => by
    simp only [ares] at h
    split at h
    · rename_i l0 h0
      simp only [Option.some.injEq] at h; subst h
      obtain ⟨l', k1, k2⟩ := ares_sim hE hT hR h0
      refine ⟨tmps.getD t undef :: l', ?_, VRels.cons (hT.get t) k2⟩
      rw [List.mapM_cons]
      simp only [Sem.run_bind, Sem.run_pure, Result.andThen_ok, k1]
    · cases h
  | .cell a t :: r, l, h => by
    simp only [ares] at h
    split at h
    · rename_i ad ha
      split at h
      · rename_i v hv
        split at h
        · rename_i l0 h0
          simp only [Option.some.injEq] at h; subst h
          obtain ⟨l', k1, k2⟩ := ares_sim hE hT hR h0
          have hr := hT.get a
          rw [ha] at hr
          generalize hu : tmps.getD a undef = u at hr
          cases hr with
          | flat hf => simp [Go.VAbs.flat] at hf
          | @ptr _ ad' hA =>
            obtain ⟨v', q1, q2⟩ := aload_sim hE hR rfl hA hv
            refine ⟨v' :: l', ?_, VRels.cons q2 k2⟩
            rw [List.mapM_cons]
            have : (do loadVar t (← asAddr (tmps.getD a undef)) : Sem Value).run E.P w = .ok v' w := by
              rw [hu]; simp only [asAddr, Sem.run_bind, Sem.run_pure, Result.andThen_ok, q1]
            rw [Sem.run_bind, this]
            simp only [Result.andThen_ok, Sem.run_bind, k1, Sem.run_pure]
        · cases h
      · cases h
    · cases h

theorem resValue_rel {μ : Mu} {l l' : List Value} (h : VRels μ l.toArray l'.toArray) : VRel μ (resValue l) (if h : l'.toArray.size = 1 then l'.toArray[0] else .tuple l'.toArray) := by
  have hs := h.1
  simp only [List.size_toArray] at hs
  match l, l', hs with
  | [v], [v'], _ => exact h.2 0 v v' (by simp) (by simp)
  | [], [], _ => exact .tuple h.1 h.2
  | _ :: _ :: _, _ :: _ :: _, _ =>
    simp only [resValue]
    rw [dif_neg (by simp)]
    exact .tuple h.1 h.2
  | [_], [], hh => simp at hh
  | [], [_], hh => simp at hh
  | [_], _ :: _ :: _, hh => simp at hh
  | _ :: _ :: _, [_], hh => simp at hh
  | _ :: _ :: _, [], hh => simp at hh

theorem afunc_sim (hP : ProgOk E) {call : ACall} (hc : CallOk E call) {k n : Nat} {fn : Func} (hf : E.fn n = some fn) {args : List Value} {σ σ' : AS} {v : Value} (wf : ∀ b, σ.next ≤ b → σ.get b = none) (e : afunc E call k fn args σ = some (v, σ')) :
    ASExt σ σ' ∧ CallSim E n args σ v σ' := by
  have hE := hP.toEnvOk
  have hce : CallExt call := ⟨hc.ext⟩
  unfold afunc at e
  split at e
  · cases e
  · rename_i c hb
    have main : ∀ (ex : AExit) (T : ATmps) (σ1 : AS), (ex = .normal ∨ ex = .ret) → acode E call k c { tr := startTr args 0 .e, size := args.length + (fn.ntmps - args.length) } σ = some (ex, T, σ1) → (ares E T σ1 fn.results.toList).map (fun l => (resValue l, σ1)) = some (v, σ') →
        ASExt σ σ' ∧ CallSim E n args σ v σ' := by
      intro ex T σ1 hex h1 h2
      simp only [Option.map_eq_some_iff, Prod.mk.injEq] at h2
      obtain ⟨l, hl, rfl, rfl⟩ := h2
      have hx := acode_ext hce k _ _ _ _ _ _ h1
      refine ⟨hx, ?_⟩
      intro μ w args' hG hR hfree hargs
      have hbody := hE.fn _ _ hf
      have hsz : args.length = args'.size := by have := hargs.1; simpa using this
      refine calls_of_wp hbody hb ?_
      have hin : CodeIn E σ1.next μ { tr := startTr args 0 .e, size := args.length + (fn.ntmps - args.length) } σ { tmps := args' ++ Array.replicate (fn.ntmps - args'.size) undef, defers := [] } w :=
        ⟨hG, start_rel hargs fn.ntmps, hR, wf, hfree, rfl⟩
      refine wp_mono (acode_sim hE hP.mixed hc k c _ _ _ _ _ σ1.next μ _ w (hP.code _ _ _ hf hb) h1 (Nat.le_refl _) hin) ?_
      rintro e a' w' ⟨rfl, hd, hs⟩
      obtain ⟨μ', f, r, nn, kk⟩ := hs
      have fin : a'.defers = [] ∧ ∃ v, (results fn a'.tmps).run E.P w' = .ok v w' ∧ ∃ v', Ending.returned v = .returned v' ∧ Sim μ σ.get w σ.next σ1.next σ1.get w' (fun μ' => VRel μ' (resValue l) v') := by
        obtain ⟨l', q1, q2⟩ := ares_sim hE kk r hl
        refine ⟨hd, _, ?_, _, rfl, μ', f, r, nn, resValue_rel q2⟩
        unfold results
        rw [Sem.run_bind]
        have : (fn.results.mapM fun
            | .tmp t => pure (a'.tmps.getD t undef)
            | .cell a t => do loadVar t (← asAddr (a'.tmps.getD a undef)) : Sem (Array Value)).run E.P w' = .ok l'.toArray w' := by
          rw [Array.mapM_eq_mapM_toList]
          simp only [Sem.run_map]
          rw [q1]; rfl
        refine Eq.trans (congrArg (fun r => Result.andThen r fun a w' => Sem.run E.P (pure (if h : a.size = 1 then a[0] else Value.tuple a)) w') this) ?_
        rfl
      rcases hex with rfl | rfl
      · exact fin
      · exact fin
    split at e
    · rename_i T σ1 h1; exact main _ T σ1 (.inl rfl) h1 e
    · rename_i T σ1 h1; exact main _ T σ1 (.inr rfl) h1 e
    · cases e

/-- What the abstract machine says of a call, the model does. -/
theorem acall_ok (hP : ProgOk E) : ∀ k, CallOk E (acall E k)
  | 0 => ⟨fun n args σ v σ' h => by simp [acall] at h, fun n args σ v σ' _ h => by simp [acall] at h, fun n args σ r h => by simp [acall] at h⟩
  | k + 1 => by
    have ih := acall_ok hP k
    refine ⟨?_, ?_, ?_⟩
    · intro n args σ v σ' h
      simp only [acall] at h
      split at h
      · rename_i g hg
        exact (hP.prim n g hg).1 args σ v σ' h
      · split at h
        · rename_i fn hf
          unfold afunc at h
          split at h
          · cases h
          · rename_i c hb
            split at h
            · rename_i h1
              simp only [Option.map_eq_some_iff, Prod.mk.injEq] at h
              obtain ⟨_, _, _, rfl⟩ := h
              exact acode_ext ⟨ih.ext⟩ _ _ _ _ _ _ _ h1
            · rename_i h1
              simp only [Option.map_eq_some_iff, Prod.mk.injEq] at h
              obtain ⟨_, _, _, rfl⟩ := h
              exact acode_ext ⟨ih.ext⟩ _ _ _ _ _ _ _ h1
            · cases h
        · cases h
    · intro n args σ v σ' wf h
      simp only [acall] at h
      split at h
      · rename_i g hg
        exact (hP.prim n g hg).2 args σ v σ' wf h
      · split at h
        · rename_i fn hf
          exact (afunc_sim hP ih hf wf h).2
        · cases h
    · intro n args σ r h
      simp only [acall] at h
      split at h
      · rename_i g hg
        exact hP.primFn n g hg
      · split at h
        · rename_i fn hf
          refine ⟨fn, hP.fn n fn hf, ?_, hP.name n fn hf⟩
          unfold afunc at h
          split at h
          · cases h
          · rename_i c hb; rw [hb]; rfl
        · cases h
end
end
end Go.VAbs
