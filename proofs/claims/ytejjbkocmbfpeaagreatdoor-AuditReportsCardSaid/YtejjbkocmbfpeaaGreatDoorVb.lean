/- The abstract machine's memory operations do what the model's do. -/
import Derived.Test.YtejjbkocmbfpeaaGreatDoorVa
import Derived.Laws.IdiomStrings
import Derived.Laws.AppendOwn
/-! The abstract machine, part 9: operations that make an object; loads and stores. -/
namespace Go.VAbs
open Go
set_option linter.unusedVariables false
noncomputable section
set_option linter.unusedSimpArgs false

section
variable {E : Env} {μ : Mu} {T : ATmps} {a : Act} {g : AH} {w : World}

theorem VRels.toList {c c' : Array Value} (h : VRels μ c c') : VRels μ c.toList.toArray c' := by rw [Array.toArray_toList]; exact h

/-- A new row of cells on either side. -/
theorem Sim.newRow (h : Rel μ g w) {n : Nat} (hn : μ n = none) {c : List Value} {arr : Array Value} (hc : VRels μ c.toArray arr) (t : TypeId) :
    Sim μ g w n (n + 1) (upd g n (.cells c false none)) (w.alloc (.cells arr t)) (fun μ' => μ' n = some ⟨w.heap.size, 0, none, arr.size, fun _ => rfl⟩) := by
  refine (Sim.alloc h hn (l := ⟨w.heap.size, 0, none, arr.size, fun _ => rfl⟩) rfl ?_).mono (Nat.le_refl _) (Nat.le_refl _) ?_
  · refine ⟨arr, t, (0, 0), rfl, ?_, ?_, rfl, Nat.le_refl _, fun _ => .inl rfl⟩
    · have := hc.1; simp at this; simp; omega
    · intro i v v' h1 h2
      refine hc.2 i v v' (by simpa using h1) ?_
      simpa using h2
  · rintro μ' _ rfl
    simp [updMu]

theorem zeroRow_rel {z : Array Value} (hz : VRels μ z z) (n : Nat) : VRels μ (zeroRow z n).toArray ((Array.range n).map (z[· % z.size]!)) := by
  unfold zeroRow
  rw [Array.toArray_toList]
  refine ⟨rfl, ?_⟩
  intro i v v' h1 h2
  rw [h1] at h2; cases h2
  obtain ⟨k1, k2⟩ := Array.getElem?_eq_some_iff.1 h1
  simp only [Array.getElem_map, Array.getElem_range] at k2
  rw [← k2]
  by_cases hi : i % z.size < z.size
  · rw [getElem!_pos z (i % z.size) hi]
    exact hz.2 _ _ _ (Array.getElem?_eq_getElem hi) (Array.getElem?_eq_getElem hi)
  · rw [getElem!_neg z (i % z.size) hi]
    exact .flat rfl

/-- What an allocation ends in. -/
def AllocSim (E : Env) (μ : Mu) (g : AH) (w : World) (n : Nat) (obj : AObj) (v : Value) (s : Sem Value) : Prop :=
  ∃ v' w', s.run E.P w = .ok v' w' ∧ Sim μ g w n (n + 1) (upd g n obj) w' (fun μ' => VRel μ' v v')

theorem newVar_alloc (h : Rel μ g w) {n : Nat} (hn : μ n = none) {v v' : Value} (hv : VRel μ v v') (t : TypeId) :
    AllocSim E μ g w n (.cells v.cells.toList false none) (.pointer (some ⟨n, 0, none⟩)) (do pure (.pointer (some (← newVar t v')))) := by
  have hc := (VRel.cells hv).toList
  refine ⟨.pointer (some ⟨w.heap.size, 0, none⟩), w.alloc (.cells v'.cells t), ?_, ?_⟩
  · simp only [newVar, newRow, Sem.run_bind, run_newObj, Result.andThen_ok, Sem.run_pure, World.alloc_eq]
  · refine (Sim.newRow h hn hc t).mono (Nat.le_refl _) (Nat.le_refl _) ?_
    intro μ' _ hm
    exact .ptr ⟨_, hm, rfl, by simp⟩

theorem wrap_small {n : Int} (h0 : 0 ≤ n) (h1 : n ≤ 140737488355328) : IntKind.i64.wrap n = n := by
  have e1 : (IntKind.i64.bits) = 64 := rfl
  have e2 : IntKind.i64.signed = true := rfl
  unfold IntKind.wrap
  rw [e1, e2]
  simp only [Bool.true_and]
  have h2 : n % (2 ^ 64 : Int) = n := Int.emod_eq_of_lt h0 (by omega)
  rw [h2]
  split
  · rename_i hh
    have : ¬ (2 ^ (64 - 1) : Int) ≤ n := by omega
    simp at hh; omega
  · rfl

theorem aalloc_sim (hE : EnvOk E) (hG : GlOk E μ) (hT : TRel μ T a.tmps) (h : Rel μ g w) {n : Nat} (hn : μ n = none) {o : Oper} {obj : AObj} {mk : Nat → Value} (e : aalloc E T o.op = some (obj, mk)) :
    ∃ v' w', (execOp a.eval o).run E.P w = .ok (.value v') w' ∧ Sim μ g w n (n + 1) (upd g n obj) w' (fun μ' => VRel μ' (mk n) v') := by
  have EV := fun {x : Operand} {v : Value} (h : ev E T x = some v) => ev_sim (a := a) hG hT h
  have fin : ∀ {s : Sem Value} {v : Value}, AllocSim E μ g w n obj v s → ∃ v' w', (do pure (Next.value (← s)) : Sem Next).run E.P w = .ok (.value v') w' ∧ Sim μ g w n (n + 1) (upd g n obj) w' (fun μ' => VRel μ' v v') := by
    rintro s v ⟨v', w', h1, h2⟩
    exact ⟨v', w', by rw [Sem.run_bind, h1]; rfl, h2⟩
  unfold execOp
  cases ho : o.op with
  | alloc t =>
    rw [ho] at e
    simp only [aalloc] at e
    split at e
    · rename_i z hz
      cases hc : closed z with
      | false => rw [hc] at e; cases e
      | true =>
        rw [hc] at e
        simp only [cond_true, Option.some.injEq, Prod.mk.injEq] at e
        obtain ⟨rfl, rfl⟩ := e
        apply fin
        obtain ⟨v', w', k1, k2⟩ := newVar_alloc (E := E) h hn (VRel.of_closed μ hc) t
        refine ⟨v', w', ?_, k2⟩
        simp only [Instr.alloc, Sem.run_bind, hE.run_zero hz, Result.andThen_ok]
        simpa only [Sem.run_bind] using k1
    · cases e
  | box t x =>
    rw [ho] at e
    simp only [aalloc] at e
    split at e
    · rename_i v hv
      simp only [Option.some.injEq, Prod.mk.injEq] at e
      obtain ⟨rfl, rfl⟩ := e
      exact fin (newVar_alloc (E := E) h hn (EV hv) t)
    · cases e
  | buildSlice t len parts =>
    rw [ho] at e
    simp only [aalloc] at e
    split at e
    · rename_i e0 l hu hl
      split at e
      · rename_i m z hm hz
        cases hc : (closed z && Nat.ble (len * m) 16777216) with
        | false => rw [hc] at e; cases e
        | true =>
          rw [hc] at e
          simp only [cond_true] at e
          simp only [Bool.and_eq_true] at hc
          have hle : len * m ≤ 16777216 := Nat.le_of_ble_eq_true hc.2
          split at e
          · rename_i cs hcs
            simp only [Option.some.injEq, Prod.mk.injEq] at e
            obtain ⟨rfl, rfl⟩ := e
            apply fin
            have hzz := VRel.cells (VRel.of_closed μ hc.1)
            have hrow := zeroRow_rel hzz (len * m)
            obtain ⟨r', k1, k2⟩ := fill_rel (fun i => some (i * m, m)) l _ _ _ cs (evParts_sim (a := a) hG hT hl) hrow hcs
            refine ⟨.slice (some ⟨w.heap.size, 0, none⟩) len len, w.alloc (.cells r' e0), ?_, ?_⟩
            · have hp : (parts.toList.map fun p => (p.1, a.eval p.2)) = (parts.map fun (i, x) => (i, a.eval x)).toList := by simp
              rw [hp] at k1
              have hr : ∀ zz : Array Value, len * m = 0 → (Array.range (len * m)).map (zz[· % zz.size]!) = (Array.range (len * m)).map (z.cells[· % z.cells.size]!) := by
                intro zz q; rw [q]; simp
              have hnle : ¬ (len * m > 2 ^ 24) := by omega
              unfold Instr.buildSlice
              rw [Sem.run_bind, hE.run_und hu, Result.andThen_ok]
              dsimp only
              rw [Sem.run_bind, hE.run_size hm, Result.andThen_ok, if_neg hnle]
              by_cases q : len * m = 0
              · rw [if_pos q]
                simp only [Sem.run_bind, Sem.run_pure, Result.andThen_ok, hr #[] q, k1, newRow, run_newObj, World.alloc_eq]
              · rw [if_neg q]
                simp only [Sem.run_bind, Sem.run_pure, Result.andThen_ok, hE.run_zero hz, k1, newRow, run_newObj, World.alloc_eq]
            · refine (Sim.newRow h hn k2.toList e0).mono (Nat.le_refl _) (Nat.le_refl _) ?_
              intro μ' _ hm'
              exact .slice (.inr ⟨⟨_, hm', rfl, by simp⟩, .inl rfl⟩)
          · cases e
      · cases e
    · cases e
  | makeMap t r =>
    have mkm : AllocSim E μ g w n (.map [] 0) (.map (some n)) (do pure (.map (some (← newObj (.map #[] 0))))) := by
      refine ⟨.map (some w.heap.size), w.alloc (.map #[] 0), by simp only [Sem.run_bind, run_newObj, Result.andThen_ok, Sem.run_pure, World.alloc_eq], ?_⟩
      have ho : ORel μ (.map [] 0) ⟨w.heap.size, 0, none, 0, fun _ => rfl⟩ (some (.map #[] 0)) := ⟨rfl, #[], rfl, rfl, by intro i e e' q; simp at q⟩
      refine (Sim.alloc h hn rfl ho).mono (Nat.le_refl _) (Nat.le_refl _) ?_
      rintro μ' _ rfl
      have : updMu μ n ⟨w.heap.size, 0, none, 0, fun _ => rfl⟩ n = some ⟨w.heap.size, 0, none, 0, fun _ => rfl⟩ := by simp [updMu]
      exact VRel.map this
    rw [ho] at e
    simp only [aalloc] at e
    split at e
    · rename_i h1
      simp only [Option.some.injEq, Prod.mk.injEq] at e
      obtain ⟨rfl, rfl⟩ := e
      apply fin
      obtain ⟨v', w', k1, k2⟩ := mkm
      refine ⟨v', w', ?_, k2⟩
      cases r with
      | none => simpa only [Instr.makeMap, Option.map_none] using k1
      | some x => simp only [evOpt, Option.map_eq_some_iff] at h1; obtain ⟨_, _, q⟩ := h1; cases q
    · rename_i k z kt et h1 hu
      simp only [Option.some.injEq, Prod.mk.injEq] at e
      obtain ⟨rfl, rfl⟩ := e
      apply fin
      obtain ⟨v', w', k1, k2⟩ := mkm
      refine ⟨v', w', ?_, k2⟩
      cases r with
      | none => simp [evOpt] at h1
      | some x =>
        simp only [evOpt, Option.map_eq_some_iff] at h1
        obtain ⟨u, q1, q2⟩ := h1
        simp only [Option.some.injEq] at q2; subst q2
        simp only [Instr.makeMap, Option.map_some, (EV q1).eq_of_flat rfl, Sem.run_bind, hE.run_und hu, Result.andThen_ok, asInt, asIntOf, Sem.run_pure]
        exact k1
    · cases e
  | makeSlice t l c =>
    rw [ho] at e
    simp only [aalloc] at e
    split at e
    · rename_i e0 k1 n1 k2 m1 hu h1 h2
      split at e
      · rename_i s z by_ hs hz hb
        cases hc : (closed z && decide (0 ≤ n1) && decide (n1 ≤ m1) && decide (m1 ≤ 140737488355328) && decide (by_ * m1 ≤ 140737488355328)) with
        | false => rw [hc] at e; cases e
        | true =>
          rw [hc] at e
          simp only [cond_true, Option.some.injEq, Prod.mk.injEq] at e
          obtain ⟨rfl, rfl⟩ := e
          simp only [Bool.and_eq_true, decide_eq_true_eq] at hc
          obtain ⟨⟨⟨⟨hc1, hc2⟩, hc3⟩, hc4⟩, hc5⟩ := hc
          apply fin
          have hzz := VRel.cells (VRel.of_closed μ hc1)
          have hrow := zeroRow_rel hzz (m1.toNat * s)
          have w1 := wrap_small hc2 (by omega)
          have w2 := wrap_small (n := m1) (by omega) hc4
          refine ⟨.slice (some ⟨w.heap.size, 0, none⟩) n1.toNat m1.toNat, w.alloc (.cells ((Array.range (m1.toNat * s)).map (z.cells[· % z.cells.size]!)) e0), ?_, ?_⟩
          · obtain ⟨i, hi1, hi2⟩ := hE.bytes _ _ hb
            have hr : ∀ zz : Array Value, m1.toNat * s = 0 → (Array.range (m1.toNat * s)).map (zz[· % zz.size]!) = (Array.range (m1.toNat * s)).map (z.cells[· % z.cells.size]!) := by
              intro zz q; rw [q]; simp
            have t0 : ¬ m1 < 0 := by omega
            have t1 : ¬ (by_ : Int) * m1 > 2 ^ 48 := by
              have : (2 : Int) ^ 48 = 281474976710656 := by decide
              omega
            have t2 : ¬ n1 < 0 := by omega
            have t3 : ¬ n1 > m1 := by omega
            unfold Instr.makeSlice
            rw [Sem.run_bind, hE.run_und hu, Result.andThen_ok]
            simp only [Sem.run_bind, Result.andThen_ok, asInt, asIntOf, (EV h1).eq_of_flat rfl, (EV h2).eq_of_flat rfl, Sem.run_pure, run_typeInfo' hi1, hi2, w1, w2, decide_eq_false t0, decide_eq_false t1, decide_eq_false t2, decide_eq_false t3, Bool.or_false, Bool.false_eq_true, if_false, run_askRoom, hE.run_size hs]
            by_cases q : m1.toNat * s = 0
            · rw [if_pos q]
              simp only [Sem.run_bind, Sem.run_pure, Result.andThen_ok, hr #[] q, newRow, run_newObj, World.alloc_eq]
            · rw [if_neg q]
              simp only [Sem.run_bind, Sem.run_pure, Result.andThen_ok, hE.run_zero hz, newRow, run_newObj, World.alloc_eq]
          · refine (Sim.newRow h hn hrow e0).mono (Nat.le_refl _) (Nat.le_refl _) ?_
            intro μ' _ hm'
            exact .slice (.inr ⟨⟨_, hm', rfl, by simp⟩, .inl rfl⟩)
      · cases e
    · cases e
  | range t x =>
    rw [ho] at e
    simp only [aalloc] at e
    split at e
    · rename_i s hu hx
      simp only [Option.some.injEq, Prod.mk.injEq] at e
      obtain ⟨rfl, rfl⟩ := e
      apply fin
      refine ⟨.pointer (some ⟨w.heap.size, 0, none⟩), w.alloc (.stringIter s 0), ?_, ?_⟩
      · simp only [Instr.range, Sem.run_bind, hE.run_und hu, Result.andThen_ok, (EV hx).eq_of_flat rfl, Sem.run_pure, run_newObj, World.alloc_eq]
      · have ho : ORel μ (.iter s 0) ⟨w.heap.size, 0, none, 0, fun _ => rfl⟩ (some (.stringIter s 0)) := ⟨rfl, rfl⟩
        refine (Sim.alloc h hn rfl ho).mono (Nat.le_refl _) (Nat.le_refl _) ?_
        rintro μ' _ rfl
        exact .ptr ⟨⟨w.heap.size, 0, none, 0, fun _ => rfl⟩, by simp [updMu], rfl, by simp⟩
    · cases e
  | convert s d x =>
    rw [ho] at e
    simp only [aalloc] at e
    split at e
    · rename_i e0 str hs hd hx
      split at e
      · rename_i he
        simp only [Option.some.injEq, Prod.mk.injEq] at e
        obtain ⟨rfl, rfl⟩ := e
        apply fin
        have hcap := grownCap_ge w str.size 0 e0
        refine ⟨_, _, by rw [(EV hx).eq_of_flat rfl]; exact run_bytes_of_string w s d e0 str (hE.und _ _ hs) (hE.und _ _ hd) (hE.und _ _ he), ?_⟩
        generalize grownCap w str.size 0 e0 = cap at hcap
        have hsz : (bytesRow str cap).size = cap := by
          simp only [bytesRow, Array.size_append, Array.size_map, Array.size_replicate]
          show str.size + (cap - str.size) = cap
          omega
        have ho : ORel μ (.cells (str.data.toList.map fun b => Value.int .u8 b.toNat) false (some 1)) ⟨w.heap.size, 0, some 1, cap, fun _ => rfl⟩ (some (.cells (bytesRow str cap) e0 ((bytesRow str cap).size, (bytesRow str cap).size + 1))) := by
          refine ⟨_, _, _, rfl, ?_, ?_, rfl, by rw [hsz]; exact Nat.le_refl _, fun _ => .inr (Nat.le_refl _)⟩
          · rw [hsz]; simp only [Nat.zero_add, List.length_map, Array.length_toList]; exact hcap
          · intro i v v' q1 q2
            simp only [Nat.zero_add] at q2
            simp only [List.getElem?_map, Option.map_eq_some_iff] at q1
            obtain ⟨b, p1, p2⟩ := q1
            have hi : i < str.data.size := by have := (List.getElem?_eq_some_iff.1 p1).1; simpa using this
            unfold bytesRow at q2
            rw [Array.getElem?_append_left (by simpa using hi), Array.getElem?_map] at q2
            have : str.data[i]? = some b := by simpa using p1
            rw [this] at q2
            simp only [Option.map_some, Option.some.injEq] at q2
            rw [← q2, ← p2]; exact .flat rfl
        have hd' : Rel μ g w.drew := h.draw rfl
        obtain ⟨μ', f, r, nn, k⟩ := Sim.alloc hd' hn (l := ⟨w.heap.size, 0, some 1, cap, fun _ => rfl⟩) rfl ho
        refine ⟨μ', (Fr.draw (w' := w.drew) rfl).trans f, r, nn, ?_⟩
        subst k
        exact .slice (.inr ⟨⟨⟨w.heap.size, 0, some 1, cap, fun _ => rfl⟩, by simp [updMu], rfl, by simp⟩, .inr ⟨⟨w.heap.size, 0, some 1, cap, fun _ => rfl⟩, 1, by simp [updMu], rfl, hcap, by simp⟩⟩)
      · cases e
    · cases e
  | _ => rw [ho] at e; simp [aalloc] at e
end
end
end Go.VAbs

/-! The abstract machine, part 10: loads, stores, and the other operations that look at memory. -/
namespace Go.VAbs
open Go
set_option linter.unusedVariables false
noncomputable section
set_option linter.unusedSimpArgs false

section
variable {E : Env} {μ : Mu} {T : ATmps} {a : Act} {g : AH} {w : World}

theorem read_sim (h : Rel μ g w) {σ : AS} {ad ad' : Addr} (hg : g ad.block = σ.get ad.block) (hA : ARel μ ad ad') {n : Nat} {l : List Value} (e : σ.read ad n = some l) :
    ∃ r' : List Value, (loadCells ad' n).run E.P w = .ok r'.toArray w ∧ VRels μ l.toArray r'.toArray := by
  obtain ⟨h1, c, ro, gr, h2, h3⟩ := AS.read_some e
  obtain ⟨l0, k1, k2, k3⟩ := hA
  rw [k3]
  exact loadCells_sim h E.P k1 (hg.trans h2) h3

theorem aload_sim (hE : EnvOk E) (h : Rel μ g w) {σ : AS} {ad ad' : Addr} (hg : g ad.block = σ.get ad.block) (hA : ARel μ ad ad') {t : TypeId} {v : Value} (e : aload E σ t ad = some v) :
    ∃ v', (loadVar t ad').run E.P w = .ok v' w ∧ VRel μ v v' := by
  unfold aload at e
  split at e
  · rename_i hi
    split at e
    · rename_i n hn
      simp only [Option.map_eq_some_iff] at e
      obtain ⟨l, k1, k2⟩ := e
      subst k2
      obtain ⟨r', q1, q2⟩ := read_sim (E := E) h hg hA k1
      refine ⟨.agg r'.toArray, ?_, .agg q2.1 q2.2⟩
      simp only [loadVar, Sem.run_bind, hE.run_isAgg hi, Result.andThen_ok, if_true, hE.run_size hn, q1, Sem.run_pure]
    · cases e
  · rename_i hi
    split at e
    · rename_i v0 hr
      simp only [Option.some.injEq] at e; subst e
      obtain ⟨h1, c, ro, gr, h2, h3⟩ := AS.read_some hr
      obtain ⟨p1, p2, p3⟩ := takeCells_some h3
      obtain ⟨l0, k1, k2, k3⟩ := hA
      have hc : c[ad.off]? = some v0 := by have := p3 0 (by omega); simpa using this.symm
      obtain ⟨v', q1, q2⟩ := h.cell k1 (hg.trans h2) hc
      refine ⟨v', ?_, q2⟩
      rw [k3]
      simp only [loadVar, Sem.run_bind, hE.run_isAgg hi, Result.andThen_ok, Bool.false_eq_true, if_false, run_load, q1]
    · cases e
  · cases e

theorem write_sim (h : Rel μ g w) {σ σ' : AS} {ad ad' : Addr} (hg : g ad.block = σ.get ad.block) (hA : ARel μ ad ad') {vs vs' : List Value} (hv : VRels μ vs.toArray vs'.toArray) (e : σ.write ad vs = some σ') :
    ∃ o' w', σ' = σ.put ad.block o' ∧ (storeCells ad' vs').run E.P w = .ok () w' ∧ ∀ lo hi, Sim μ g w lo hi (upd g ad.block o') w' (fun μ' => μ' = μ) := by
  obtain ⟨h1, c, gr, h2, h3, h4, h5⟩ := AS.write_some e
  obtain ⟨l0, k1, k2, k3⟩ := hA
  obtain ⟨q1, q2⟩ := hv.list
  obtain ⟨w', r1, r2⟩ := storeCells_sim E.P k1 vs vs' 0 c g w h (hg.trans h2) (by omega) q1 q2 h4 (o := ad.off)
  refine ⟨_, w', h5, ?_, fun lo hi => ?_⟩
  · rw [k3]; exact r1
  · have := r2 lo hi
    simpa only [Nat.add_zero] using this

theorem astore_sim (hE : EnvOk E) (h : Rel μ g w) {σ σ' : AS} {ad ad' : Addr} (hg : g ad.block = σ.get ad.block) (hA : ARel μ ad ad') {v v' : Value} (hv : VRel μ v v') {t : TypeId} (e : astore E σ t ad v = some σ') :
    ∃ o' w', σ' = σ.put ad.block o' ∧ (storeVar t ad' v').run E.P w = .ok () w' ∧ ∀ lo hi, Sim μ g w lo hi (upd g ad.block o') w' (fun μ' => μ' = μ) := by
  unfold astore at e
  split at e
  · rename_i n hn
    cases hc : Nat.beq v.cells.size n with
    | false => rw [hc] at e; cases e
    | true =>
      rw [hc] at e
      simp only [cond_true] at e
      have hs := Nat.eq_of_beq_eq_true hc
      have hcells := VRel.cells hv
      obtain ⟨o', w', k1, k2, k3⟩ := write_sim (E := E) (vs' := v'.cells.toList) h hg hA (by rw [Array.toArray_toList, Array.toArray_toList]; exact hcells) e
      refine ⟨o', w', k1, ?_, k3⟩
      have : ¬ (v'.cells.size ≠ n) := by rw [← hcells.1, hs]; simp
      simp only [storeVar, Sem.run_bind, hE.run_size hn, Result.andThen_ok]
      rw [if_neg this]
      exact k2
  · cases e

theorem aslice2_sim (hE : EnvOk E) (hG : GlOk E μ) (hT : TRel μ T a.tmps) (h : Rel μ g w) {σ : AS} {t : TypeId} {x : Operand} {lo hi mx : Option Operand} {v : Value} {b : Nat} (hg : μ b ≠ none → g b = σ.get b)
    (e : aslice2 E T σ t x lo hi mx = some (v, b)) : ∃ v', (Instr.sliceAt t (a.eval x) (lo.map a.eval) (hi.map a.eval) (mx.map a.eval)).run E.P w = .ok v' w ∧ VRel μ v v' := by
  unfold aslice2 at e
  split at e
  · rename_i e0 ad len cap l0 h0 m0 hu hx hl hh hm
    split at e
    · rename_i l hi' m n c ro gr hb hn hblk
      cases hc : (Nat.ble hi' m && grOk gr n) with
      | false => rw [hc] at e; cases e
      | true =>
        rw [hc] at e
        simp only [cond_true, Option.some.injEq, Prod.mk.injEq] at e
        obtain ⟨rfl, rfl⟩ := e
        simp only [Bool.and_eq_true] at hc
        have hle : hi' ≤ m := Nat.le_of_ble_eq_true hc.1
        obtain ⟨s1, s2, s3⟩ := abounds_same (a := a) hG hT hl hh hm hb
        rw [s1, s2, s3]
        have hr := ev_sim (a := a) hG hT hx
        generalize a.eval x = u at hr ⊢
        obtain ⟨k1, k2, k3, k4⟩ := abounds_run hb
        cases hr with
        | flat hf => simp [Go.VAbs.flat] at hf
        | @slice _ ad' _ _ cap' hL =>
          have hcc : cap ≤ cap' := by
            rcases hL with ⟨_, q, q'⟩ | ⟨_, q | ⟨_, _, _, _, q, _⟩⟩ <;> omega
          have hrun : ∀ w, (Instr.sliceAt t (.slice (some ad') len cap') l0 h0 m0).run E.P w = .ok (.slice (some (if (if m0.isSome then m else cap') = l then ad' else ad'.add (l * n))) (hi' - l) ((if m0.isSome then m else cap') - l)) w := by
            intro w
            have := k4 true cap' E.P w hcc
            simp only [Instr.sliceAt, Instr.slice, Sem.run_bind, hE.run_und hu, Result.andThen_ok, this, hE.run_size hn, Sem.run_pure, Option.map_some]
            have pull : ∀ m' : Nat, (if m' = l then some ad' else some (ad'.add (l * n))) = some (if m' = l then ad' else ad'.add (l * n)) := by intro m'; split <;> rfl
            rw [pull]
          refine ⟨_, hrun w, ?_⟩
          have zero : ∀ m', (m' : Nat) = l → m = l → VRel μ (.slice (some (ad.add (l * n))) (hi' - l) (m - l)) (.slice (some (if m' = l then ad' else ad'.add (l * n))) (hi' - l) (m' - l)) := by
            intro m' e1 e2
            have : hi' - l = 0 := by omega
            exact .slice (.inl ⟨this, by omega, by omega⟩)
          rcases hL with ⟨q0, q1, q2⟩ | ⟨hA, q⟩
          · -- an empty slice
            have hm0 : m = 0 := by omega
            have hl0 : l = 0 := by omega
            refine zero _ ?_ (by omega)
            cases m0 with
            | none => simp; omega
            | some _ => simp; omega
          · cases m0 with
            | some u0 =>
              simp only [Option.isSome_some, if_true]
              by_cases eq : m = l
              · exact zero m eq eq
              · rw [if_neg eq]; exact .slice (.inr ⟨hA.add _, .inl rfl⟩)
            | none =>
              simp only [Option.isSome_none, Bool.false_eq_true, if_false]
              have hmc : m = cap := by
                unfold abounds at hb
                simp only at hb
                split at hb
                · cases hb
                · split at hb
                  · cases hb
                  · simp only [Option.some.injEq, Prod.mk.injEq] at hb; exact hb.2.2.symm
              subst hmc
              by_cases eq : cap' = l
              · exact zero cap' eq (by omega)
              · rw [if_neg eq]
                refine .slice (.inr ⟨hA.add _, ?_⟩)
                rcases q with q | ⟨lc, s, q1, q2, q3, q4⟩
                · exact .inl (by rw [q])
                · have hgr : gr = some s := by
                    obtain ⟨_, _, _, _, _, _, o4, _⟩ := h.obj _ lc _ q1 ((hg (by rw [q1]; simp)).trans hblk)
                    rw [← o4, q2]
                  subst hgr
                  have hsn : s = n := Nat.eq_of_beq_eq_true hc.2
                  subst hsn
                  have hblk' : (ad.add (l * s)).block = ad.block := by unfold Addr.add; split <;> rfl
                  refine .inr ⟨lc, s, by rw [hblk']; exact q1, q2, by omega, ?_⟩
                  obtain ⟨l1, a1, a2, a3⟩ := hA
                  rw [a3, Addr.add_none]
                  rw [a3] at q4
                  simp only at q4 ⊢
                  have hmul : l * s + (cap' - l) * s = cap' * s := by rw [← Nat.add_mul]; congr 1; omega
                  omega
    · cases e
  · cases e
end
end
end Go.VAbs

/-! The abstract machine, part 11: maps. -/
namespace Go.VAbs
open Go
set_option linter.unusedVariables false
noncomputable section
set_option linter.unusedSimpArgs false

def ERel (μ : Mu) (e e' : MapEntry) : Prop := e'.key = e.key ∧ closed e.key = true ∧ e'.born = e.born ∧ VRel μ e.val e'.val
def ERels (μ : Mu) (l l' : List MapEntry) : Prop := l.length = l'.length ∧ ∀ (i : Nat) (e e' : MapEntry), l[i]? = some e → l'[i]? = some e' → ERel μ e e'
/-- What a search has found. -/
def FRel (μ : Mu) : Option (Nat × Value) → Option (Nat × Value) → Prop
  | none, none => True
  | some (i, v), some (j, v') => i = j ∧ VRel μ v v'
  | _, _ => False

section
variable {E : Env} {μ : Mu} {T : ATmps} {a : Act} {g : AH} {w : World}

theorem ERels.tail {e e' : MapEntry} {l l' : List MapEntry} (h : ERels μ (e :: l) (e' :: l')) : ERel μ e e' ∧ ERels μ l l' :=
  ⟨h.2 0 e e' rfl rfl, by have := h.1; simpa using this, fun i x x' h1 h2 => h.2 (i + 1) x x' (by simpa using h1) (by simpa using h2)⟩

theorem findNow_rel (d : TypeDesc) (k : Value) : ∀ (l l' : List MapEntry) (i : Nat) (r : Option (Nat × Value)), ERels μ l l' → Instr.findNow d k l i = some r → ∃ r', Instr.findNow d k l' i = some r' ∧ FRel μ r r'
  | [], [], i, r, _, h => by simp only [Instr.findNow, Option.some.injEq] at h; subst h; exact ⟨none, rfl, trivial⟩
  | _ :: _, [], _, _, hr, _ => by have := hr.1; simp at this
  | [], _ :: _, _, _, hr, _ => by have := hr.1; simp at this
  | e :: l, e' :: l', i, r, hr, h => by
    obtain ⟨h1, h2⟩ := hr.tail
    simp only [Instr.findNow] at h ⊢
    rw [h1.1]
    split at h
    · simp only [Option.some.injEq] at h; subst h
      exact ⟨_, rfl, rfl, h1.2.2.2⟩
    · exact findNow_rel d k l l' (i + 1) r h2 h
    · cases h
theorem findNow_none (d : TypeDesc) (k : Value) : ∀ (l l' : List MapEntry) (i : Nat), ERels μ l l' → Instr.findNow d k l i = none → Instr.findNow d k l' i = none
  | [], [], i, _, h => by simp [Instr.findNow] at h
  | _ :: _, [], _, hr, _ => by have := hr.1; simp at this
  | [], _ :: _, _, hr, _ => by have := hr.1; simp at this
  | e :: l, e' :: l', i, hr, h => by
    obtain ⟨h1, h2⟩ := hr.tail
    simp only [Instr.findNow] at h ⊢
    rw [h1.1]
    split at h
    · cases h
    · exact findNow_none d k l l' (i + 1) h2 h
    · rfl
theorem findAsking_rel (t : TypeId) (k : Value) : ∀ (l l' : List MapEntry) (i : Nat) (r : Option (Nat × Value)), ERels μ l l' → afindAsking E t k l i = some r →
    ∃ r', (∀ w, (Instr.findAsking t k l' i).run E.P w = .ok r' w) ∧ FRel μ r r'
  | [], [], i, r, _, h => by simp only [afindAsking, Option.some.injEq] at h; subst h; exact ⟨none, fun _ => rfl, trivial⟩
  | _ :: _, [], _, _, hr, _ => by have := hr.1; simp at this
  | [], _ :: _, _, _, hr, _ => by have := hr.1; simp at this
  | e :: l, e' :: l', i, r, hr, h => by
    obtain ⟨h1, h2⟩ := hr.tail
    simp only [afindAsking] at h
    split at h
    · rename_i hp
      simp only [Option.some.injEq] at h; subst h
      refine ⟨some (i, e'.val), fun w => ?_, rfl, h1.2.2.2⟩
      simp only [Instr.findAsking, Sem.run_bind, h1.1, pureRun_run _ _ _ hp, Result.andThen_ok, if_true, Sem.run_pure]
    · rename_i hp
      obtain ⟨r', k1, k2⟩ := findAsking_rel t k l l' (i + 1) r h2 h
      refine ⟨r', fun w => ?_, k2⟩
      simp only [Instr.findAsking, Sem.run_bind, h1.1, pureRun_run _ _ _ hp, Result.andThen_ok, Bool.false_eq_true, if_false]
      exact k1 w
    · cases h

theorem afind_sim (hE : EnvOk E) {t : TypeId} {k : Value} {l l' : List MapEntry} (hr : ERels μ l l') {r : Option (Nat × Value)} (e : afind E t k l = some r) :
    ∃ r', (∀ w, (Instr.findKey t k l').run E.P w = .ok r' w) ∧ FRel μ r r' := by
  unfold afind at e
  simp only [findNowF_eq] at e
  split at e
  · cases e
  · rename_i d hd
    split at e
    · rename_i r0 h0
      simp only [Option.some.injEq] at e; subst e
      obtain ⟨r', k1, k2⟩ := findNow_rel d k l l' 0 r0 hr h0
      refine ⟨r', fun w => ?_, k2⟩
      simp only [Instr.findKey, Sem.run_bind, hE.run_und hd, Result.andThen_ok, k1, Sem.run_pure]
    · rename_i h0
      obtain ⟨r', k1, k2⟩ := findAsking_rel t k l l' 0 r hr e
      refine ⟨r', fun w => ?_, k2⟩
      simp only [Instr.findKey, Sem.run_bind, hE.run_und hd, Result.andThen_ok, findNow_none d k l l' 0 hr h0]
      exact k1 w

theorem checkKey_int (hE : EnvOk E) (empty : Bool) (n : Nat) {t : TypeId} {ik : IntKind} (hu : E.und t = some (.int ik)) (k : IntKind) (z : Int) (w : World) : (Instr.checkKey empty (n + 1) t (.int k z)).run E.P w = .ok () w := by
  unfold Instr.checkKey; rw [Sem.run_bind, hE.run_und hu]; rfl
theorem checkKey_string (hE : EnvOk E) (empty : Bool) (n : Nat) {t : TypeId} (hu : E.und t = some .string) (s : ByteArray) (w : World) : (Instr.checkKey empty (n + 1) t (.string s)).run E.P w = .ok () w := by
  unfold Instr.checkKey; rw [Sem.run_bind, hE.run_und hu]; rfl
theorem keyOk_run (hE : EnvOk E) {t : TypeId} {k : Value} (h : keyOk E t k = true) : closed k = true ∧ (∃ d, E.und t = some d) ∧ ∀ (empty : Bool) (w : World), (Instr.checkKey empty 10000 t k).run E.P w = .ok () w := by
  unfold keyOk at h
  rw [Bool.and_eq_true] at h
  refine ⟨h.1, ?_, ?_⟩
  · have h2 := h.2
    cases hu : E.und t with
    | none => rw [hu] at h2; simp at h2
    | some d => exact ⟨d, rfl⟩
  · intro empty w
    have h2 := h.2
    split at h2
    · rename_i hu; exact checkKey_int hE empty 9999 hu _ _ w
    · rename_i hu; exact checkKey_string hE empty 9999 hu _ w
    · cases h2
    · rw [Bool.and_eq_true] at h2
      obtain ⟨p, hp⟩ := Option.isSome_iff_exists.1 h2.1
      obtain ⟨q, hq⟩ := Option.isSome_iff_exists.1 h2.2
      cases empty
      · exact pureRun_run _ _ _ hq w
      · exact pureRun_run _ _ _ hp w

theorem run_getObj_map {P : Program} {r : Nat} {es : Array MapEntry} {cl : Nat} (h : w.heap[r]? = some (.map es cl)) : (getObj r).run P w = .ok (.map es cl) w := by
  simp [getObj, Sem.run, h]
theorem run_setObj_map {P : Program} {r : Nat} {es : Array MapEntry} {cl : Nat} (h : w.heap[r]? = some (.map es cl)) (o : Obj) : (setObj r o).run P w = .ok () { w with heap := w.heap.setIfInBounds r o } := by
  simp [setObj, Sem.run, h]
theorem Rel.map (h : Rel μ g w) {b : Nat} {l : Loc} (hb : μ b = some l) {es : List MapEntry} {cl : Nat} (hg : g b = some (.map es cl)) :
    l.sh = 0 ∧ ∃ es', w.heap[l.blk]? = some (.map es' cl) ∧ ERels μ es es'.toList := by
  obtain ⟨h0, es', h1, h2, h3⟩ := h.obj b l _ hb hg
  exact ⟨h0, es', h1, by simpa using h2, fun i e e' p q => h3 i e e' p (by simpa using q)⟩
/-- A map put in its own place anew. -/
theorem Sim.putMap (h : Rel μ g w) {b : Nat} {l : Loc} (hb : μ b = some l) {es : List MapEntry} {cl : Nat} (hg : g b = some (.map es cl)) {es1 : List MapEntry} {es1' : Array MapEntry} {cl1 : Nat} (hr : ERels μ es1 es1'.toList) (lo hi : Nat) :
    Sim μ g w lo hi (upd g b (.map es1 cl1)) { w with heap := w.heap.setIfInBounds l.blk (.map es1' cl1) } (fun μ' => μ' = μ) := by
  obtain ⟨h0, es', h1, h2⟩ := h.map hb hg
  have hlt : l.blk < w.heap.size := (Array.getElem?_eq_some_iff.1 h1).1
  refine Sim.put h hb ⟨_, hg, rfl⟩ lo hi rfl rfl rfl (by simp) ?_ ?_
  · intro c hc
    show (w.heap.setIfInBounds l.blk _)[c]? = _
    rw [Array.getElem?_setIfInBounds, if_neg (fun e => hc e.symm)]
  · have : (w.heap.setIfInBounds l.blk (.map es1' cl1))[l.blk]? = some (.map es1' cl1) := by
      rw [Array.getElem?_setIfInBounds, if_pos rfl, if_pos hlt]
    refine ⟨h0, es1', this, by have := hr.1; simpa using this, fun i e e' p q => hr.2 i e e' p (by simpa using q)⟩
theorem ERels.append {l l' m m' : List MapEntry} (h : ERels μ l l') (k : ERels μ m m') : ERels μ (l ++ m) (l' ++ m') := by
  refine ⟨by simp [h.1, k.1], ?_⟩
  intro i e e' p q
  rw [List.getElem?_append] at p q
  by_cases hi : i < l.length
  · rw [if_pos hi] at p; rw [if_pos (h.1 ▸ hi)] at q; exact h.2 i e e' p q
  · rw [if_neg hi] at p; rw [if_neg (h.1 ▸ hi), ← h.1] at q; exact k.2 _ e e' p q
theorem ERels.modify {l l' : List MapEntry} (h : ERels μ l l') (i : Nat) (f f' : MapEntry → MapEntry) (hf : ∀ e e', ERel μ e e' → ERel μ (f e) (f' e')) : ERels μ (l.modify i f) (l'.modify i f') := by
  refine ⟨by simp [h.1], ?_⟩
  intro j e e' p q
  rw [List.getElem?_modify] at p q
  cases hp : l[j]? with
  | none => rw [hp] at p; simp at p
  | some x =>
    cases hq : l'[j]? with
    | none => rw [hq] at q; simp at q
    | some x' =>
      rw [hp] at p; rw [hq] at q
      simp at p q
      have hx := h.2 j x x' hp hq
      subst p; subst q
      split
      · exact hf x x' hx
      · exact hx
theorem ERels.erase {l l' : List MapEntry} (h : ERels μ l l') (i : Nat) : ERels μ (l.eraseIdx i) (l'.eraseIdx i) := by
  refine ⟨by simp [List.length_eraseIdx, h.1], ?_⟩
  intro j e e' p q
  rw [List.getElem?_eraseIdx] at p q
  by_cases hj : j < i
  · rw [if_pos hj] at p q; exact h.2 j e e' p q
  · rw [if_neg hj] at p q; exact h.2 _ e e' p q
end
end
end Go.VAbs

/-! The abstract machine, part 12: operations on maps. -/
namespace Go.VAbs
open Go
set_option linter.unusedVariables false
noncomputable section
set_option linter.unusedSimpArgs false

/-- How an operation that yields a value ends: the heap (σ'.get) and the value stand to what the model does. -/
def MemSim (E : Env) (μ : Mu) (w : World) (σ σ' : AS) (v : Value) (s : Sem Value) : Prop :=
  ∃ v' w', s.run E.P w = .ok v' w' ∧ Sim μ σ.get w σ.next σ'.next σ'.get w' (fun μ' => VRel μ' v v')
def MemSimU (E : Env) (μ : Mu) (w : World) (σ σ' : AS) (s : Sem Unit) : Prop :=
  ∃ w', s.run E.P w = .ok () w' ∧ Sim μ σ.get w σ.next σ'.next σ'.get w' (fun _ => True)

abbrev mapW (w : World) (b : Nat) (es : Array MapEntry) (cl : Nat) : World := { w with heap := w.heap.setIfInBounds b (.map es cl) }

section
variable {E : Env} {μ : Mu} {T : ATmps} {a : Act} {w : World} {σ σ' : AS}

theorem memPure (h : Rel μ σ.get w) {v v' : Value} {s : Sem Value} (hs : s.run E.P w = .ok v' w) (hv : VRel μ v v') : MemSim E μ w σ σ v s :=
  ⟨v', w, hs, Sim.pure h _ _ hv⟩

theorem mapArg {m m' : Value} (hm : VRel μ m m') {b : Nat} (e : m = .map (some b)) : ∃ l, μ b = some l ∧ m' = .map (some l.blk) := by
  subst e
  cases hm with
  | flat hf => simp [Go.VAbs.flat] at hf
  | map h => exact ⟨_, h, rfl⟩

theorem alookup_sim (hE : EnvOk E) (h : Rel μ σ.get w) {t : TypeId} {m m' k k' : Value} (hm : VRel μ m m') (hk : VRel μ k k') {ok : Bool} {v : Value} (e : alookup E σ t m k ok = some v) :
    ∃ v', (Instr.lookup t m' k' ok).run E.P w = .ok v' w ∧ VRel μ v v' := by
  unfold alookup at e
  split at e
  · rename_i kt et hu
    cases hkey : keyOk E kt k with
    | false => rw [hkey] at e; cases e
    | true =>
      rw [hkey] at e
      simp only [cond_true] at e
      obtain ⟨c1, ⟨d, hd⟩, c3⟩ := keyOk_run hE hkey
      rw [hk.eq_of_closed c1]
      have fin : ∀ {x x' : Value} (b : Bool), VRel μ x x' → VRel μ (if ok then .tuple #[x, .bool b] else x) (if ok then .tuple #[x', .bool b] else x') := by
        intro x x' b hx
        cases ok
        · simpa using hx
        · simp only [if_true]
          have := VRels.cons hx (VRels.cons (.flat (v := .bool b) rfl) (VRels.nil μ))
          exact .tuple this.1 this.2
      have missed : ∀ {z : Value}, (match E.zero et with | some z => bif closed z then some (if ok then Value.tuple #[z, .bool false] else z) else none | none => none) = some v →
          ∃ z0 v', (∀ w, (zeroValue et).run E.P w = .ok z0 w) ∧ v' = (if ok then Value.tuple #[z0, .bool false] else z0) ∧ VRel μ v v' := by
        intro _ hh
        split at hh
        · rename_i z hz
          cases hc : closed z with
          | false => rw [hc] at hh; cases hh
          | true =>
            rw [hc] at hh; simp only [cond_true, Option.some.injEq] at hh
            exact ⟨z, _, fun w => hE.run_zero hz w, rfl, by rw [← hh]; exact fin false (VRel.of_closed μ hc)⟩
        · cases hh
      split at e
      · rw [hd] at e
        simp only at e
        obtain ⟨z0, v', q1, q2, q3⟩ := missed (z := v) e
        refine ⟨v', ?_, q3⟩
        rw [hm.eq_of_flat rfl]
        simp only [Instr.lookup, Sem.run_bind, hE.run_und hu, Result.andThen_ok, Sem.run_pure, c3, Instr.findKey, hE.run_und hd, Instr.findNow, q1, q2]
      · rename_i b
        split at e
        · rename_i es cl hg
          obtain ⟨l, hl, rfl⟩ := mapArg hm rfl
          obtain ⟨_, es', p1, p2⟩ := h.map hl hg
          split at e
          · rename_i i u hf
            simp only [Option.some.injEq] at e; subst e
            obtain ⟨r', f1, f2⟩ := afind_sim hE p2 hf
            cases r' with
            | none => exact f2.elim
            | some r' =>
              obtain ⟨j, u'⟩ := r'
              obtain ⟨rfl, f3⟩ := f2
              refine ⟨_, ?_, fin true f3⟩
              simp only [Instr.lookup, Sem.run_bind, hE.run_und hu, Result.andThen_ok, run_getObj_map p1, Sem.run_pure, c3, f1]
          · rename_i hf
            obtain ⟨r', f1, f2⟩ := afind_sim hE p2 hf
            cases r' with
            | some r' => exact f2.elim
            | none =>
              obtain ⟨z0, v', q1, q2, q3⟩ := missed (z := v) e
              refine ⟨v', ?_, q3⟩
              simp only [Instr.lookup, Sem.run_bind, hE.run_und hu, Result.andThen_ok, run_getObj_map p1, Sem.run_pure, c3, f1, q1, q2]
          · cases e
        · cases e
      · cases e
  · cases e

theorem getKey {es : List MapEntry} {es' : Array MapEntry} (hr : ERels μ es es'.toList) {i : Nat} {x : MapEntry} (hx : es[i]? = some x) : ∃ x', es'[i]? = some x' ∧ ERel μ x x' := by
  obtain ⟨hi, he⟩ := List.getElem?_eq_some_iff.1 hx
  have hl := hr.1
  simp only [Array.length_toList] at hl
  have hi' : i < es'.size := by omega
  exact ⟨es'[i], Array.getElem?_eq_getElem hi', hr.2 i x _ hx (by simp [hi'])⟩

theorem amapUpdate_sim (hE : EnvOk E) (h : Rel μ σ.get w) {t : TypeId} {m m' k k' v v' : Value} (hm : VRel μ m m') (hk : VRel μ k k') (hv : VRel μ v v') (e : amapUpdate E σ t m k v = some σ') :
    MemSimU E μ w σ σ' (Instr.mapUpdate t m' k' v') := by
  unfold amapUpdate at e
  split at e
  · rename_i kt et b hu
    obtain ⟨l, hl, rfl⟩ := mapArg hm rfl
    cases hkey : keyOk E kt k with
    | false => rw [hkey] at e; cases e
    | true =>
      rw [hkey] at e
      simp only [cond_true] at e
      obtain ⟨c1, _, c3⟩ := keyOk_run hE hkey
      rw [hk.eq_of_closed c1]
      split at e
      · rename_i es cl hg
        obtain ⟨_, es', p1, p2⟩ := h.map hl hg
        split at e
        · rename_i i u hf
          obtain ⟨r', f1, f2⟩ := afind_sim hE p2 hf
          cases r' with
          | none => exact f2.elim
          | some r' =>
            obtain ⟨j, u'⟩ := r'
            obtain ⟨rfl, f3⟩ := f2
            split at e
            · rename_i x hx
              cases hsb : Instr.sameBits 10000 x.key k with
              | false => rw [hsb] at e; cases e
              | true =>
                rw [hsb] at e
                simp only [cond_true, Option.some.injEq] at e; subst e
                obtain ⟨x', hx', hxr⟩ := getKey p2 hx
                refine ⟨mapW w l.blk (es'.modify i fun e => { e with key := k, val := v' }) cl, ?_, ?_⟩
                · simp only [Instr.mapUpdate, Sem.run_bind, hE.run_und hu, Result.andThen_ok, run_getObj_map p1, c3, f1, hx', Option.map_some, Option.getD_some, hxr.1, Instr.keyThatStays, hsb, if_true, Sem.run_pure]
                  exact run_setObj_map p1 _
                · rw [AS.get_put]
                  refine (Sim.putMap h hl hg ?_ _ _).mono (Nat.le_refl _) (Nat.le_refl _) (fun _ _ _ => trivial)
                  have := p2.modify i (fun e => { e with key := k, val := v }) (fun e => { e with key := k, val := v' }) (fun e e' hh => ⟨rfl, c1, hh.2.2.1, hv⟩)
                  simpa [modEntry] using this
            · cases e
        · rename_i hf
          obtain ⟨r', f1, f2⟩ := afind_sim hE p2 hf
          cases r' with
          | some r' => exact f2.elim
          | none =>
            simp only [Option.some.injEq] at e; subst e
            refine ⟨mapW w l.blk (es'.push { key := k, val := v', born := cl }) (cl + 1), ?_, ?_⟩
            · simp only [Instr.mapUpdate, Sem.run_bind, hE.run_und hu, Result.andThen_ok, run_getObj_map p1, c3, f1]
              exact run_setObj_map p1 _
            · rw [AS.get_put]
              refine (Sim.putMap h hl hg ?_ _ _).mono (Nat.le_refl _) (Nat.le_refl _) (fun _ _ _ => trivial)
              have : ERels μ [({ key := k, val := v, born := cl } : MapEntry)] [{ key := k, val := v', born := cl }] := ⟨rfl, by
                intro i x x' q1 q2
                cases i with
                | zero => simp at q1 q2; subst q1; subst q2; exact ⟨rfl, c1, rfl, hv⟩
                | succ i => simp at q1⟩
              have := p2.append this
              simpa using this
        · cases e
      · cases e
  · cases e

theorem adelete_sim (hE : EnvOk E) (h : Rel μ σ.get w) {ts : Array TypeId} {m m' k k' : Value} (hm : VRel μ m m') (hk : VRel μ k k') (e : adelete E σ ts m k = some σ') (ty : TypeId) :
    MemSim E μ w σ σ' (.tuple #[]) (Builtin.delete_ ts ty #[m', k']) := by
  unfold adelete at e
  split at e
  · rename_i t ht
    split at e
    · rename_i kt et hu
      cases hkey : keyOk E kt k with
      | false => rw [hkey] at e; cases e
      | true =>
        rw [hkey] at e
        simp only [cond_true] at e
        obtain ⟨c1, _, c3⟩ := keyOk_run hE hkey
        rw [hk.eq_of_closed c1]
        split at e
        · simp only [Option.some.injEq] at e; subst e
          rw [hm.eq_of_flat rfl]
          refine memPure h ?_ (VRel.of_closed μ rfl)
          simp only [Builtin.delete_, ht, List.getElem?_toArray, List.getElem?_cons_zero, List.getElem?_cons_succ, Sem.run_bind, hE.run_und hu, Result.andThen_ok, c3, Sem.run_pure]
        · rename_i b
          obtain ⟨l, hl, rfl⟩ := mapArg hm rfl
          split at e
          · rename_i es cl hg
            obtain ⟨_, es', p1, p2⟩ := h.map hl hg
            split at e
            · rename_i i u hf
              obtain ⟨r', f1, f2⟩ := afind_sim hE p2 hf
              cases r' with
              | none => exact f2.elim
              | some r' =>
                obtain ⟨j, u'⟩ := r'
                obtain ⟨rfl, f3⟩ := f2
                simp only [Option.some.injEq] at e; subst e
                refine ⟨.tuple #[], mapW w l.blk (es'.eraseIdxIfInBounds i) cl, ?_, ?_⟩
                · simp only [Builtin.delete_, ht, List.getElem?_toArray, List.getElem?_cons_zero, List.getElem?_cons_succ, Sem.run_bind, hE.run_und hu, Result.andThen_ok, run_getObj_map p1, c3, f1]
                  rw [run_setObj_map p1]
                  rfl
                · rw [AS.get_put]
                  refine (Sim.putMap h hl hg ?_ _ _).mono (Nat.le_refl _) (Nat.le_refl _) (fun _ _ _ => VRel.of_closed _ rfl)
                  have := p2.erase i
                  rw [Array.toList_eraseIdxIfInBounds]; exact this
            · rename_i hf
              obtain ⟨r', f1, f2⟩ := afind_sim hE p2 hf
              cases r' with
              | some r' => exact f2.elim
              | none =>
                simp only [Option.some.injEq] at e; subst e
                refine ⟨.tuple #[], mapW w l.blk es' cl, ?_, ?_⟩
                · simp only [Builtin.delete_, ht, List.getElem?_toArray, List.getElem?_cons_zero, List.getElem?_cons_succ, Sem.run_bind, hE.run_und hu, Result.andThen_ok, run_getObj_map p1, c3, f1]
                  rw [run_setObj_map p1]
                  rfl
                · rw [AS.get_put]
                  exact (Sim.putMap h hl hg p2 _ _).mono (Nat.le_refl _) (Nat.le_refl _) (fun _ _ _ => VRel.of_closed _ rfl)
            · cases e
          · cases e
        · cases e
    · cases e
  · cases e

theorem amapEntry_sim (hE : EnvOk E) (h : Rel μ σ.get w) {t : TypeId} {m m' k k' : Value} (hm : VRel μ m m') (hk : VRel μ k k') {v : Value} (e : amapEntry E σ t m k = some (v, σ')) :
    MemSim E μ w σ σ' v (Instr.mapEntry t m' k') := by
  unfold amapEntry at e
  split at e
  · rename_i kt et b hu
    obtain ⟨l, hl, rfl⟩ := mapArg hm rfl
    cases hkey : keyOk E kt k with
    | false => rw [hkey] at e; cases e
    | true =>
      rw [hkey] at e
      simp only [cond_true] at e
      obtain ⟨c1, _, c3⟩ := keyOk_run hE hkey
      rw [hk.eq_of_closed c1]
      split at e
      · rename_i es cl hg
        obtain ⟨_, es', p1, p2⟩ := h.map hl hg
        split at e
        · rename_i i u hf
          obtain ⟨r', f1, f2⟩ := afind_sim hE p2 hf
          cases r' with
          | none => exact f2.elim
          | some r' =>
            obtain ⟨j, u'⟩ := r'
            obtain ⟨rfl, f3⟩ := f2
            split at e
            · rename_i x hx
              cases hsb : Instr.sameBits 10000 x.key k with
              | false => rw [hsb] at e; cases e
              | true =>
                rw [hsb] at e
                simp only [cond_true, Option.some.injEq, Prod.mk.injEq] at e
                obtain ⟨rfl, rfl⟩ := e
                obtain ⟨x', hx', hxr⟩ := getKey p2 hx
                refine ⟨.tuple #[u', goInt x.born], mapW w l.blk (es'.modify i fun e => { e with key := k }) cl, ?_, ?_⟩
                · simp only [Instr.mapEntry, Sem.run_bind, hE.run_und hu, Result.andThen_ok, run_getObj_map p1, c3, f1, hx', Option.map_some, Option.getD_some, hxr.1, hxr.2.2.1, Instr.keyThatStays, hsb, if_true, Sem.run_pure]
                  rw [run_setObj_map p1]
                  rfl
                · rw [AS.get_put]
                  refine (Sim.putMap h hl hg (es1' := es'.modify i fun e => { e with key := k }) ?_ _ _).mono (Nat.le_refl _) (Nat.le_refl _) (fun μ' hle _ => ?_)
                  · have := p2.modify i (fun e => { e with key := k }) (fun e => { e with key := k }) (fun e e' hh => ⟨rfl, c1, hh.2.2.1, hh.2.2.2⟩)
                    simpa [modEntry] using this
                  · have := VRels.cons (f3.mono hle) (VRels.cons (goInt_rel μ' x.born) (VRels.nil μ'))
                    exact .tuple this.1 this.2
            · cases e
        · rename_i hf
          obtain ⟨r', f1, f2⟩ := afind_sim hE p2 hf
          cases r' with
          | some r' => exact f2.elim
          | none =>
            split at e
            · rename_i z hz
              cases hc : closed z with
              | false => rw [hc] at e; cases e
              | true =>
                rw [hc] at e
                simp only [cond_true, Option.some.injEq, Prod.mk.injEq] at e
                obtain ⟨rfl, rfl⟩ := e
                refine ⟨.tuple #[z, goInt cl], mapW w l.blk (es'.push { key := k, val := z, born := cl }) (cl + 1), ?_, ?_⟩
                · simp only [Instr.mapEntry, Sem.run_bind, hE.run_und hu, Result.andThen_ok, run_getObj_map p1, c3, f1, hE.run_zero hz]
                  rw [run_setObj_map p1]
                  rfl
                · rw [AS.get_put]
                  refine (Sim.putMap h hl hg (es1' := es'.push { key := k, val := z, born := cl }) ?_ _ _).mono (Nat.le_refl _) (Nat.le_refl _) (fun μ' hle _ => ?_)
                  · have : ERels μ [({ key := k, val := z, born := cl } : MapEntry)] [{ key := k, val := z, born := cl }] := ⟨rfl, by
                      intro i x x' q1 q2
                      cases i with
                      | zero => simp at q1 q2; subst q1; subst q2; exact ⟨rfl, c1, rfl, VRel.of_closed μ hc⟩
                      | succ i => simp at q1⟩
                    have := p2.append this
                    simpa using this
                  · have := VRels.cons (VRel.of_closed μ' hc) (VRels.cons (goInt_rel μ' cl) (VRels.nil μ'))
                    exact .tuple this.1 this.2
            · cases e
        · cases e
      · cases e
  · cases e

theorem findIdx_rel (n : Int) : ∀ (l l' : List MapEntry), ERels μ l l' → l'.findIdx? (fun e => (e.born : Int) == n) = l.findIdx? (fun e => (e.born : Int) == n)
  | [], [], _ => rfl
  | _ :: _, [], h => by have := h.1; simp at this
  | [], _ :: _, h => by have := h.1; simp at this
  | e :: l, e' :: l', h => by
    obtain ⟨h1, h2⟩ := h.tail
    simp only [List.findIdx?_cons, h1.2.2.1, findIdx_rel n l l' h2]

theorem aentryStore_sim (h : Rel μ σ.get w) {t : TypeId} {m m' s s' v v' : Value} (hm : VRel μ m m') (hs : VRel μ s s') (hv : VRel μ v v') (e : aentryStore σ m s v = some σ') :
    MemSimU E μ w σ σ' (Instr.entryStore t m' s' v') := by
  unfold aentryStore at e
  split at e
  · rename_i b k n
    obtain ⟨l, hl, rfl⟩ := mapArg hm rfl
    rw [hs.eq_of_flat rfl]
    split at e
    · rename_i es cl hg
      obtain ⟨_, es', p1, p2⟩ := h.map hl hg
      split at e
      · rename_i i hi
        simp only [Option.some.injEq] at e; subst e
        have hi' : es'.findIdx? (fun e => (e.born : Int) == n) = some i := by
          have h1 := findIdx_rel n es es'.toList p2
          rw [← List.findIdx?_toArray, Array.toArray_toList] at h1
          rw [h1]; exact hi
        refine ⟨mapW w l.blk (es'.modify i fun e => { e with val := v' }) cl, ?_, ?_⟩
        · simp only [Instr.entryStore, Sem.run_bind, run_getObj_map p1, Result.andThen_ok, asInt, asIntOf, Sem.run_pure, hi']
          exact run_setObj_map p1 _
        · rw [AS.get_put]
          refine (Sim.putMap h hl hg ?_ _ _).mono (Nat.le_refl _) (Nat.le_refl _) (fun _ _ _ => trivial)
          have := p2.modify i (fun e => { e with val := v }) (fun e => { e with val := v' }) (fun e e' hh => ⟨hh.1, hh.2.1, hh.2.2.1, hv⟩)
          simpa [modEntry] using this
      · cases e
    · cases e
  · cases e
end
end
end Go.VAbs

/-! The abstract machine, part 13b: walks over maps are simulated. -/
namespace Go.VAbs
open Go
set_option linter.unusedVariables false
noncomputable section
set_option linter.unusedSimpArgs false
section
variable {E : Env} {μ : Mu} {T : ATmps} {a : Act} {w : World} {σ σ' : AS}

theorem ERels.nil_of {l' : List MapEntry} (h : ERels μ [] l') : l' = [] := List.eq_nil_of_length_eq_zero h.1.symm
theorem ERels.cons_of {e : MapEntry} {l l' : List MapEntry} (h : ERels μ (e :: l) l') : ∃ e' m', l' = e' :: m' ∧ ERel μ e e' ∧ ERels μ l m' := by
  cases l' with
  | nil => have := h.1; simp at this
  | cons e' m' => exact ⟨e', m', rfl, h.tail.1, h.tail.2⟩
theorem ERels.cons {e e' : MapEntry} {l l' : List MapEntry} (h : ERel μ e e') (k : ERels μ l l') : ERels μ (e :: l) (e' :: l') := by
  refine ⟨by simp only [List.length_cons, k.1], ?_⟩
  intro i x x' h1 h2
  cases i with
  | zero => cases h1; cases h2; exact h
  | succ i => exact k.2 i x x' (by simpa using h1) (by simpa using h2)
theorem ERels.filter {f : MapEntry → Bool} (hf : ∀ e e', ERel μ e e' → f e' = f e) : ∀ {l l' : List MapEntry}, ERels μ l l' → ERels μ (l.filter f) (l'.filter f)
  | [], l', h => by rw [h.nil_of]; exact ⟨rfl, fun i e e' q => by simp at q⟩
  | e :: l, l', h => by
    obtain ⟨e', m', rfl, h1, h2⟩ := h.cons_of
    simp only [List.filter_cons, hf e e' h1]
    split
    · exact (ERels.filter hf h2).cons h1
    · exact ERels.filter hf h2
theorem ERels.all {f : MapEntry → Bool} (hf : ∀ e e', ERel μ e e' → f e' = f e) : ∀ {l l' : List MapEntry}, ERels μ l l' → l'.all f = l.all f
  | [], l', h => by rw [h.nil_of]
  | e :: l, l', h => by
    obtain ⟨e', m', rfl, h1, h2⟩ := h.cons_of
    simp only [List.all_cons, hf e e' h1, ERels.all hf h2]
theorem ERels.find {f : MapEntry → Bool} (hf : ∀ e e', ERel μ e e' → f e' = f e) : ∀ {l l' : List MapEntry} {e : MapEntry}, ERels μ l l' → l.find? f = some e → ∃ e', l'.find? f = some e' ∧ ERel μ e e'
  | [], l', e, h, q => by simp at q
  | x :: l, l', e, h, q => by
    obtain ⟨x', m', rfl, h1, h2⟩ := h.cons_of
    simp only [List.find?_cons, hf x x' h1] at q ⊢
    split at q
    · cases q; exact ⟨x', rfl, h1⟩
    · exact ERels.find hf h2 q

theorem ptrArg {a : Addr} {v : Value} (h : VRel μ (.pointer (some a)) v) : ∃ a', v = .pointer (some a') ∧ ARel μ a a' := by
  cases h with
  | flat hf => simp [Go.VAbs.flat] at hf
  | ptr hA => exact ⟨_, rfl, hA⟩
theorem arange_sim (hE : EnvOk E) (h : Rel μ σ.get w) (hfresh : ∀ b, σ.next ≤ b → b < σ'.next → μ b = none) {t : TypeId} {m m' : Value} (hm : VRel μ m m') {v : Value} {loud : Bool} (e : arange E σ t m = some (v, σ', loud)) :
    MemSim E μ w σ σ' v (Instr.range t m') := by
  have fin : ∀ {M : Option Nat} {M' : Option Nat} {s c : Nat}, (match M with | none => M' = none | some b => ∃ l', μ b = some l' ∧ M' = some l'.blk) → σ' = σ.alloc (.miter M s [] c) → v = .pointer (some ⟨σ.next, 0, none⟩) →
      (Instr.range t m').run E.P w = .ok (.pointer (some ⟨w.heap.size, 0, none⟩)) (w.alloc (.mapIter M' s #[] c)) → MemSim E μ w σ σ' v (Instr.range t m') := by
    intro M M' s c hM hσ hv hrun
    subst hσ; subst hv
    have hn : μ σ.next = none := hfresh _ (Nat.le_refl _) (by simp [AS.alloc])
    refine ⟨_, _, hrun, ?_⟩
    have ho : ORel μ (.miter M s [] c) ⟨w.heap.size, 0, none, 0, fun _ => rfl⟩ (some (.mapIter M' s #[] c)) := ⟨rfl, M', rfl, hM⟩
    rw [AS.get_alloc]
    refine (Sim.alloc h hn rfl ho).mono (Nat.le_refl _) (Nat.le_refl _) ?_
    rintro μ' _ rfl
    exact .ptr ⟨⟨w.heap.size, 0, none, 0, fun _ => rfl⟩, by simp [updMu], rfl, by simp⟩
  unfold arange at e
  split at e
  · rename_i k0 e0 hu
    simp only [Option.some.injEq, Prod.mk.injEq] at e
    obtain ⟨rfl, rfl, rfl⟩ := e
    obtain rfl : m' = .map none := hm.eq_of_flat rfl
    refine fin (M := none) (M' := none) rfl rfl rfl ?_
    simp only [Instr.range, Sem.run_bind, hE.run_und hu, Result.andThen_ok, Sem.run_pure, run_newObj, World.alloc_eq]
  · rename_i k0 e0 mb hu
    split at e
    · rename_i es cl hb
      simp only [Option.some.injEq, Prod.mk.injEq] at e
      obtain ⟨rfl, rfl, rfl⟩ := e
      obtain ⟨l, hl, rfl⟩ := mapArg hm rfl
      obtain ⟨_, es', p1, p2⟩ := h.map hl hb
      refine fin (M := some mb) (M' := some l.blk) ⟨l, hl, rfl⟩ rfl rfl ?_
      simp only [Instr.range, Sem.run_bind, hE.run_und hu, Result.andThen_ok, run_getObj_map p1, Sem.run_pure, run_newObj, World.alloc_eq]
    · cases e
  · cases e

theorem arr_filter (l : List MapEntry) (f : MapEntry → Bool) : (Array.mk l).filter f = ⟨l.filter f⟩ := by apply Array.ext'; simp
theorem amnext_sim (h : Rel μ σ.get w) {it it' : Value} (hi : VRel μ it it') {v : Value} {loud : Bool} (e : amnext σ it = some (v, σ', loud)) (ty : TypeId) :
    MemSim E μ w σ σ' v (Instr.next it' false ty) := by
  unfold amnext at e
  split at e
  · rename_i b
    obtain ⟨ad', rfl, hA⟩ := ptrArg hi
    · obtain ⟨l, l1, l2, l3⟩ := hA
      split at e
      · rename_i s0 s1 s2 hb
        obtain ⟨o1, m', o2, o3⟩ := h.obj _ l _ l1 hb
        simp only [Option.some.injEq, Prod.mk.injEq] at e
        obtain ⟨rfl, rfl, rfl⟩ := e
        rw [o1] at l3; subst l3
        subst o3
        have hget : (getObj l.blk).run E.P w = .ok (.mapIter none s0 s1.toArray s2) w := by simp [getObj, Sem.run, o2]
        refine memPure h ?_ (VRel.of_closed μ rfl)
        simp only [Instr.next, Sem.run_bind, hget, Result.andThen_ok]
        rfl
      · rename_i m since seen last hb
        obtain ⟨o1, m', o2, l', o3, o4⟩ := h.obj _ l _ l1 hb
        rw [o1] at l3; subst l3
        subst o4
        have hget : (getObj l.blk).run E.P w = .ok (.mapIter (some l'.blk) since seen.toArray last) w := by simp [getObj, Sem.run, o2]
        split at e
        · rename_i es cl hmb
          obtain ⟨_, es', p1, p2⟩ := h.map o3 hmb
          obtain ⟨l2'⟩ := es'
          have hborn : ∀ e e', ERel μ e e' → e'.born = e.born := fun e e' q => q.2.2.1
          have hallE : l2'.all (fun e => decide (e.born ≥ last)) = es.all (fun e => decide (e.born ≥ last)) := ERels.all (fun e e' q => by simp only [hborn e e' q]) p2
          have hempE : l2'.isEmpty = es.isEmpty := by
            have := p2.1
            cases es <;> cases l2' <;> simp_all
          have hfil : ERels μ (es.filter (unseen seen)) (l2'.filter (unseen seen)) := ERels.filter (fun e e' q => by simp only [unseen, hborn e e' q]) p2
          cases hc : (!seen.isEmpty && !es.isEmpty && es.all (fun e => decide (e.born ≥ last))) with
          | true => rw [hc] at e; cases e
          | false =>
            rw [hc] at e
            simp only [cond_false] at e
            have hgm := run_getObj_map (P := E.P) p1
            have hc' : (!seen.toArray.isEmpty && !(Array.mk l2').isEmpty && (Array.mk l2').all (fun e => decide (e.born ≥ last))) = false := by
              have e1 : seen.toArray.isEmpty = seen.isEmpty := by cases seen <;> rfl
              have e2 : (Array.mk l2').isEmpty = l2'.isEmpty := by cases l2' <;> rfl
              have e3 : (Array.mk l2').all (fun e => decide (e.born ≥ last)) = l2'.all (fun e => decide (e.born ≥ last)) := by simp
              rw [e1, e2, e3, hempE, hallE]; exact hc
            have hcont : ∀ (x : MapEntry), (!seen.toArray.contains x.born) = unseen seen x := by intro x; simp [unseen]
            have hcon : (fun x : MapEntry => !seen.toArray.contains x.born) = unseen seen := funext hcont
            split at e
            · rename_i hnil
              simp only [Option.some.injEq, Prod.mk.injEq] at e
              obtain ⟨rfl, rfl, rfl⟩ := e
              rw [hnil] at hfil
              have hn := hfil.nil_of
              refine memPure h ?_ (VRel.of_closed μ rfl)
              simp only [Instr.next, Sem.run_bind, hget, hgm, Result.andThen_ok, hc', hcon, arr_filter, hn]
              simp [Sem.run_bind, run_choose, Question.forced]
            · rename_i x hone
              rw [hone] at hfil
              obtain ⟨x', m2, hx, hr, hr2⟩ := hfil.cons_of
              have hm2 := hr2.nil_of
              subst hm2
              cases hlt : decide (x.born < since) with
              | false => rw [hlt] at e; cases e
              | true =>
                rw [hlt] at e
                simp only [cond_true, Option.some.injEq, Prod.mk.injEq] at e
                obtain ⟨rfl, rfl, rfl⟩ := e
                have hlt := of_decide_eq_true hlt
                have hb2 : l.blk < w.heap.size := (Array.getElem?_eq_some_iff.1 o2).1
                have hxb : x'.born = x.born := hborn _ _ hr
                have hlt' : x'.born < since := by rw [hxb]; exact hlt
                have hge' : ¬ x'.born ≥ since := by omega
                refine ⟨.tuple #[.bool true, x'.key, x'.val], { w with heap := w.heap.setIfInBounds l.blk (.mapIter (some l'.blk) since (seen ++ [x.born]).toArray cl) }, ?_, ?_⟩
                · have hpush : seen.toArray.push x'.born = (seen ++ [x.born]).toArray := by rw [hxb]; simp
                  have f1 : ([x'] : List MapEntry).filter (fun e => decide (e.born < since)) = [x'] := by simp [hlt']
                  have f2 : ([x'] : List MapEntry).filter (fun e => decide (e.born ≥ since)) = [] := by simp [hlt']
                  simp only [Instr.next, Sem.run_bind, hget, hgm, Result.andThen_ok, hc', hcon, arr_filter, hx, f1, f2]
                  have hset : (setObj l.blk (.mapIter (some l'.blk) since (seen ++ [x'.born]).toArray cl)).run E.P w = .ok () { w with heap := w.heap.setIfInBounds l.blk (.mapIter (some l'.blk) since (seen ++ [x'.born]).toArray cl) } := by simp [setObj, Sem.run, o2]
                  rw [← hpush]
                  simp [Sem.run_bind, run_choose, Question.forced, hset]
                · rw [AS.get_put]
                  have ho' : ({ w with heap := w.heap.setIfInBounds l.blk (.mapIter (some l'.blk) since (seen ++ [x.born]).toArray cl) } : World).heap[l.blk]? = some (.mapIter (some l'.blk) since (seen ++ [x.born]).toArray cl) := by
                    show (w.heap.setIfInBounds l.blk _)[l.blk]? = _
                    rw [Array.getElem?_setIfInBounds, if_pos rfl, if_pos hb2]
                  have ho2 : ORel μ (.miter (some m) since (seen ++ [x.born]) cl) l ({ w with heap := w.heap.setIfInBounds l.blk (.mapIter (some l'.blk) since (seen ++ [x.born]).toArray cl) } : World).heap[l.blk]? := ⟨o1, _, ho', l', o3, rfl⟩
                  refine (Sim.put (w' := { w with heap := w.heap.setIfInBounds l.blk (.mapIter (some l'.blk) since (seen ++ [x.born]).toArray cl) }) h l1 ⟨_, hb, rfl⟩ _ _ rfl rfl rfl (by simp) ?_ ho2).mono (Nat.le_refl _) (Nat.le_refl _) ?_
                  · intro c hc
                    show (w.heap.setIfInBounds l.blk _)[c]? = _
                    rw [Array.getElem?_setIfInBounds, if_neg (fun e => hc e.symm)]
                  · rintro μ' _ rfl
                    refine .tuple rfl ?_
                    intro i a b h1 h2
                    match i, h1, h2 with
                    | 0, h1, h2 => cases h1; cases h2; exact .flat rfl
                    | 1, h1, h2 => cases h1; cases h2; rw [hr.1]; exact VRel.of_closed _ hr.2.1
                    | 2, h1, h2 => cases h1; cases h2; exact hr.2.2.2
                    | i + 3, h1, h2 => simp at h1
            · cases e
        · cases e
      · cases e
  · cases e

theorem amentry_sim (h : Rel μ σ.get w) {it it' : Value} (hi : VRel μ it it') {v : Value} {loud : Bool} (e : amentry σ it = some (v, σ', loud)) :
    MemSim E μ w σ σ' v (Instr.entry it') := by
  unfold amentry at e
  split at e
  · rename_i b
    obtain ⟨ad', rfl, hA⟩ := ptrArg hi
    · obtain ⟨l, l1, l2, l3⟩ := hA
      split at e
      · rename_i m since seen last hb
        obtain ⟨o1, m', o2, l', o3, o4⟩ := h.obj _ l _ l1 hb
        rw [o1] at l3; subst l3
        subst o4
        have hget : (getObj l.blk).run E.P w = .ok (.mapIter (some l'.blk) since seen.toArray last) w := by simp [getObj, Sem.run, o2]
        split at e
        · rename_i stamp es cl hst hmb
          obtain ⟨_, es', p1, p2⟩ := h.map o3 hmb
          obtain ⟨l2'⟩ := es'
          have hgm := run_getObj_map (P := E.P) p1
          cases hcl : Nat.beq cl last with
          | false => rw [hcl] at e; cases e
          | true =>
            rw [hcl] at e
            simp only [cond_true] at e
            have hcl := Nat.eq_of_beq_eq_true hcl
            subst hcl
            split at e
            · rename_i x hx
              simp only [Option.some.injEq, Prod.mk.injEq] at e
              obtain ⟨rfl, rfl, rfl⟩ := e
              obtain ⟨x', hx', hr⟩ := ERels.find (f := bornAt stamp) (fun e e' q => by simp only [bornAt, q.2.2.1]) p2 hx
              have hback : seen.toArray.back? = some stamp := by rw [← hst]; simp
              have hfd : (Array.mk l2').find? (fun e => e.born == stamp) = some x' := by rw [← hx']; simp; rfl
              refine memPure h (v' := .tuple #[x'.key, x'.val]) ?_ ?_
              · simp only [Instr.entry, Sem.run_bind, hget, hgm, Result.andThen_ok, hback, bne_self_eq_false, hfd]
                simp
              · refine .tuple rfl ?_
                intro i a b h1 h2
                match i, h1, h2 with
                | 0, h1, h2 => cases h1; cases h2; rw [hr.1]; exact VRel.of_closed _ hr.2.1
                | 1, h1, h2 => cases h1; cases h2; exact hr.2.2.2
                | i + 2, h1, h2 => simp at h1
            · cases e
        · cases e
      · cases e
  · cases e
end
end
end Go.VAbs

/-! The abstract machine, part 13: append and copy. -/
namespace Go.VAbs
open Go
set_option linter.unusedVariables false
noncomputable section
set_option linter.unusedSimpArgs false

section
variable {E : Env} {μ : Mu} {T : ATmps} {a : Act} {g : AH} {w : World} {σ σ' : AS}

abbrev rowW (w : World) (b : Nat) (arr : Array Value) (t : TypeId) (fr : Nat × Nat) : World := { w with heap := w.heap.setIfInBounds b (.cells arr t fr) }

theorem setCell_row {b : Nat} {arr : Array Value} {t : TypeId} {fr : Nat × Nat} (h : w.heap[b]? = some (.cells arr t fr)) (o : Nat) (v : Value) : w.setCell ⟨b, o, none⟩ v = rowW w b (arr.setIfInBounds o v) t fr := by
  have hlt := (Array.getElem?_eq_some_iff.1 h).1
  have : (w.setCell ⟨b, o, none⟩ v).heap = w.heap.setIfInBounds b (.cells (arr.setIfInBounds o v) t fr) := by
    apply Array.ext_getElem?
    intro i
    rw [show (w.setCell ⟨b, o, none⟩ v).heap[i]? = _ from Array.getElem?_modify, Array.getElem?_setIfInBounds]
    by_cases e : b = i
    · subst e; rw [if_pos rfl, if_pos rfl, if_pos hlt, h]; rfl
    · rw [if_neg e, if_neg e]
  have e2 : w.setCell ⟨b, o, none⟩ v = { w with heap := (w.setCell ⟨b, o, none⟩ v).heap } := rfl
  rw [e2, this]

/-- A row of cells stored, whatever the abstract heap knows of it. -/
theorem storeCells_row (P : Program) {b : Nat} {t : TypeId} {fr : Nat × Nat} : ∀ (vs : List Value) (o i : Nat) (arr : Array Value) (w : World), w.heap[b]? = some (.cells arr t fr) → o + i + vs.length ≤ arr.size → (fr.1 = fr.2 ∨ arr.size ≤ fr.1) → vs.all (·.oneCell') = true →
    ∃ arr', arr'.size = arr.size ∧ (∀ j, arr'[j]? = if o + i ≤ j ∧ j < o + i + vs.length then vs[j - (o + i)]? else arr[j]?) ∧ (storeCells ⟨b, o, none⟩ vs i).run P w = .ok () (rowW w b arr' t fr)
  | [], o, i, arr, w, h, _, _, _ => by
    refine ⟨arr, rfl, fun j => ?_, ?_⟩
    · rw [if_neg (by simp)]
    · have : rowW w b arr t fr = w := by
        unfold rowW
        have hlt := (Array.getElem?_eq_some_iff.1 h).1
        have : w.heap.setIfInBounds b (.cells arr t fr) = w.heap := by
          apply Array.ext_getElem?
          intro k
          rw [Array.getElem?_setIfInBounds]
          split
          · rename_i e; subst e; rw [h]
          · rfl
        rw [this]
      rw [this]; rfl
  | v :: vs, o, i, arr, w, h, hlen, hfr, hone => by
    simp only [List.length_cons] at hlen
    simp only [List.all_cons, Bool.and_eq_true] at hone
    have hlt := (Array.getElem?_eq_some_iff.1 h).1
    have hcell : w.cell? ⟨b, o + i, none⟩ = some arr[o + i] := by simp [World.cell?, h]
    have hnf : w.frozen? ⟨b, o + i, none⟩ = false := by
      simp only [World.frozen?, h]
      rcases hfr with q | q
      · by_cases q1 : fr.1 ≤ o + i
        · have : ¬ o + i < fr.2 := by omega
          simp [this]
        · simp [q1]
      · have : ¬ fr.1 ≤ o + i := by omega
        simp [this]
    have h1 : (rowW w b (arr.setIfInBounds (o + i) v) t fr).heap[b]? = some (.cells (arr.setIfInBounds (o + i) v) t fr) := by
      show (w.heap.setIfInBounds b _)[b]? = _
      rw [Array.getElem?_setIfInBounds, if_pos rfl, if_pos hlt]
    obtain ⟨arr', k1, k2, k3⟩ := storeCells_row P vs o (i + 1) (arr.setIfInBounds (o + i) v) _ h1 (by simp; omega) (by simpa using hfr) hone.2
    refine ⟨arr', by simpa using k1, fun j => ?_, ?_⟩
    · rw [k2 j]
      simp only [List.length_cons]
      by_cases e1 : o + i = j
      · subst e1
        rw [if_neg (by omega), if_pos (by omega), Array.getElem?_setIfInBounds, if_pos rfl, if_pos (by omega)]
        simp
      · by_cases e2 : o + (i + 1) ≤ j ∧ j < o + (i + 1) + vs.length
        · rw [if_pos e2, if_pos (by omega), show j - (o + i) = (j - (o + (i + 1))) + 1 from by omega, List.getElem?_cons_succ]
        · rw [if_neg e2, if_neg (by omega), Array.getElem?_setIfInBounds, if_neg e1]
    · simp only [storeCells, Sem.run_bind, Addr.add_none]
      rw [run_store _ _ _ _ _ hone.1]
      simp only [hcell, hnf, Bool.false_eq_true, if_false, Result.andThen_ok]
      rw [setCell_row h, k3]
      unfold rowW
      simp only [Array.setIfInBounds_setIfInBounds]

/-- A block that nobody needs any more. -/
theorem Sim.kill (h : Rel μ g w) (b lo hi : Nat) : Sim μ g w lo hi (upd g b .dead) w (fun μ' => μ' = μ) := by
  have own : ∀ x, Own (upd g b .dead) x → Own g x := by
    intro x ⟨o, h1, h2⟩
    unfold upd at h1
    split at h1
    · cases h1; simp [AObj.own] at h2
    · exact ⟨o, h1, h2⟩
  have al : ∀ x, Alive (upd g b .dead) x → Alive g x := by
    intro x ⟨o, h1, h2⟩
    unfold upd at h1
    split at h1
    · cases h1; simp [AObj.alive] at h2
    · exact ⟨o, h1, h2⟩
  refine ⟨μ, ⟨rfl, rfl, rfl, Nat.le_refl _, fun _ _ _ => rfl, .refl μ, fun x l p q => (by rw [p] at q; cases q), fun x l _ q => own x q, fun x l _ q => al x q⟩, ⟨h.size, ?_, ?_⟩, fun x p q => absurd p q, rfl⟩
  · intro x l o p q
    unfold upd at q
    split at q
    · cases q; trivial
    · exact h.obj x l o p q
  · intro x y l l' p q ne e o1 a1
    exact h.inj x y l l' p q ne e (own x o1) (al y a1)

/-- Grown in its own place: a new number for the row, the old one is no more. -/
theorem Sim.regrow (h : Rel μ g w) {b n : Nat} {l : Loc} (hb : μ b = some l) (hn : μ n = none) {c : List Value} {s : Nat} (hg : g b = some (.cells c false (some s))) {o : Nat} {new : List Value} {arr' : Array Value} {t : TypeId} {fr : Nat × Nat}
    {arr : Array Value} (harr : w.heap[l.blk]? = some (.cells arr t fr)) (hsz : arr'.size = arr.size) (hlen : o + new.length ≤ arr.size) (hfr : fr.1 = fr.2 ∨ arr.size ≤ fr.1)
    (hrel : ∀ (i : Nat) (v v' : Value), new[i]? = some v → arr'[o + i]? = some v' → VRel μ v v') :
    Sim μ g w n (n + 1) (upd (upd g n (.cells new false (some s))) b .dead) (rowW w l.blk arr' t fr) (fun μ' => μ' = updMu μ n ⟨l.blk, o, some s, l.tot, fun q => nomatch q⟩) := by
  have hlt := (Array.getElem?_eq_some_iff.1 harr).1
  have hbn : b ≠ n := fun e => by rw [e, hn] at hb; cases hb
  have le := updMu_le (l := ⟨l.blk, o, some s, l.tot, fun q => nomatch q⟩) hn
  have hown : Own g b := ⟨_, hg, rfl⟩
  obtain ⟨_, _, _, e1, _, _, e4, e5, _⟩ := h.obj b l _ hb hg
  rw [harr] at e1; cases e1
  have dead : ∀ x lx, μ x = some lx → x ≠ b → lx.blk = l.blk → ¬ Alive g x := fun x lx hx hne he => h.inj b x l lx hb hx (Ne.symm hne) he.symm hown
  have look : ∀ x, x ≠ b → x ≠ n → (upd (upd g n (.cells new false (some s))) b .dead) x = g x := by
    intro x h1 h2; unfold upd; rw [if_neg h1, if_neg h2]
  have lookn : (upd (upd g n (.cells new false (some s))) b .dead) n = some (.cells new false (some s)) := by
    unfold upd; rw [if_neg (Ne.symm hbn), if_pos rfl]
  have lookb : (upd (upd g n (.cells new false (some s))) b .dead) b = some .dead := by unfold upd; rw [if_pos rfl]
  have heapk : ∀ k, k ≠ l.blk → (rowW w l.blk arr' t fr).heap[k]? = w.heap[k]? := by
    intro k hk
    show (w.heap.setIfInBounds l.blk _)[k]? = _
    rw [Array.getElem?_setIfInBounds, if_neg (fun e => hk e.symm)]
  have heapb : (rowW w l.blk arr' t fr).heap[l.blk]? = some (.cells arr' t fr) := by
    show (w.heap.setIfInBounds l.blk _)[l.blk]? = _
    rw [Array.getElem?_setIfInBounds, if_pos rfl, if_pos hlt]
  refine ⟨updMu μ n ⟨l.blk, o, some s, l.tot, fun q => nomatch q⟩, ⟨rfl, rfl, rfl, by simp, ?_, le, ?_, ?_, ?_⟩, ⟨?_, ?_, ?_⟩, ?_, rfl⟩
  · intro k hk hno
    exact heapk k (fun e => hno b l hb e.symm hown)
  · intro x lx h1 h2
    unfold updMu at h2
    by_cases e : x = n
    · rw [if_pos e] at h2; cases h2; exact .inr ⟨b, l, hb, rfl, hown⟩
    · rw [if_neg e, h1] at h2; cases h2
  · intro x lx hx ⟨o1, h1, h2⟩
    by_cases e : x = b
    · subst e; rw [lookb] at h1; cases h1; simp [AObj.own] at h2
    · have en : x ≠ n := fun e' => by rw [e', hn] at hx; cases hx
      rw [look x e en] at h1; exact ⟨o1, h1, h2⟩
  · intro x lx hx ⟨o1, h1, h2⟩
    by_cases e : x = b
    · subst e; exact hown.alive
    · have en : x ≠ n := fun e' => by rw [e', hn] at hx; cases hx
      rw [look x e en] at h1; exact ⟨o1, h1, h2⟩
  · intro x lx hx
    show lx.blk < (w.heap.setIfInBounds l.blk _).size
    rw [Array.size_setIfInBounds]
    unfold updMu at hx
    by_cases e : x = n
    · rw [if_pos e] at hx; cases hx; exact hlt
    · rw [if_neg e] at hx; exact h.size x lx hx
  · intro x lx ob hx ho
    unfold updMu at hx
    by_cases e : x = n
    · rw [if_pos e] at hx; cases hx
      rw [e, lookn] at ho; cases ho
      rw [heapb]
      refine ⟨arr', t, fr, rfl, by simp only; omega, ?_, rfl, by simp only; omega, fun _ => by rw [hsz]; exact hfr⟩
      intro i v v' q1 q2
      exact (hrel i v v' q1 q2).mono le
    · rw [if_neg e] at hx
      by_cases eb : x = b
      · rw [eb, lookb] at ho; cases ho; trivial
      · rw [look x eb e] at ho
        by_cases ek : lx.blk = l.blk
        · have : ob = .dead := by
            cases ob <;> first | rfl | exact absurd ⟨_, ho, rfl⟩ (dead x lx hx eb ek)
          rw [this]; trivial
        · rw [heapk _ ek]; exact (h.obj x lx ob hx ho).mono le
  · intro x y lx ly hx hy ne eq ow al
    unfold updMu at hx hy
    by_cases ex : x = n
    · rw [if_pos ex] at hx; cases hx
      rw [if_neg (fun e => ne (ex.trans e.symm))] at hy
      obtain ⟨oy, y1, y2⟩ := al
      by_cases eb : y = b
      · rw [eb, lookb] at y1; cases y1; simp [AObj.alive] at y2
      · rw [look y eb (fun e => ne (ex.trans e.symm))] at y1
        exact dead y ly hy eb eq.symm ⟨oy, y1, y2⟩
    · rw [if_neg ex] at hx
      obtain ⟨ox, x1, x2⟩ := ow
      by_cases exb : x = b
      · rw [exb, lookb] at x1; cases x1; simp [AObj.own] at x2
      · rw [look x exb ex] at x1
        by_cases ey : y = n
        · rw [if_pos ey] at hy; cases hy
          exact dead x lx hx exb eq (Own.alive ⟨ox, x1, x2⟩)
        · rw [if_neg ey] at hy
          obtain ⟨oy, y1, y2⟩ := al
          by_cases eyb : y = b
          · rw [eyb, lookb] at y1; cases y1; simp [AObj.alive] at y2
          · rw [look y eyb ey] at y1
            exact h.inj x y lx ly hx hy ne eq ⟨ox, x1, x2⟩ ⟨oy, y1, y2⟩
  · intro x h1 h2
    unfold updMu at h2
    by_cases e : x = n
    · omega
    · rw [if_neg e, h1] at h2; exact absurd rfl h2
end
end
end Go.VAbs

/-! The abstract machine, part 14: append and copy are what the model does. -/
namespace Go.VAbs
open Go
set_option linter.unusedVariables false
noncomputable section
set_option linter.unusedSimpArgs false

section
variable {E : Env} {μ : Mu} {T : ATmps} {a : Act} {g : AH} {w : World} {σ σ' : AS}

theorem flats_rel {l : List Value} (h : ∀ v ∈ l, flat v = true) : VRels μ l.toArray l.toArray := by
  refine ⟨rfl, ?_⟩
  intro i v v' h1 h2
  rw [h1] at h2; cases h2
  simp only [List.getElem?_toArray] at h1
  exact .flat (h v (List.mem_of_getElem? h1))

theorem alenOf_sim {x x' : Value} (hx : VRel μ x x') {k : Nat} (e : alenOf x = some k) (w : World) : (Builtin.lenOf x').run E.P w = .ok k w := by
  cases hx with
  | flat hf => cases x <;> simp_all [alenOf, Builtin.lenOf, Go.VAbs.flat]
  | slice _ => simp only [alenOf, Option.some.injEq] at e; subst e; rfl
  | _ => simp [alenOf] at e

theorem asrc_sim (h : Rel μ σ.get w) {size n k : Nat} {x x' : Value} (hx : VRel μ x x') (hk : alenOf x = some k) (hn : n ≤ k) {l : List Value} (e : asrc σ size n x = some l) :
    ∃ l' : List Value, (Builtin.firstCells size n x').run E.P w = .ok l'.toArray w ∧ VRels μ l.toArray l'.toArray := by
  unfold asrc at e
  split at e
  · rename_i ad len cap
    simp only [alenOf, Option.some.injEq] at hk; subst hk
    cases hx with
    | flat hf => simp [Go.VAbs.flat] at hf
    | @slice _ ad' _ _ cap' hL =>
      rcases hL with ⟨q, _⟩ | ⟨hA, _⟩
      · have hn0 : n = 0 := by omega
        subst hn0
        obtain ⟨_, _, _, _, _, h3⟩ := AS.read_some e
        obtain ⟨_, p2, _⟩ := takeCells_some h3
        have : l = [] := by apply List.eq_nil_of_length_eq_zero; simpa using p2
        subst this
        exact ⟨[], by simp [Builtin.firstCells, loadCells, loadCellsFrom], VRels.nil μ⟩
      · obtain ⟨r', k1, k2⟩ := read_sim (E := E) h rfl hA e
        exact ⟨r', k1, k2⟩
  · rw [hx.eq_of_flat rfl]
    simp only [Option.some.injEq] at e; subst e
    exact ⟨[], rfl, VRels.nil μ⟩
  · rename_i s
    rw [hx.eq_of_flat rfl]
    simp only [Option.some.injEq] at e; subst e
    refine ⟨_, ?_, flats_rel (by intro v hv; simp only [List.mem_map] at hv; obtain ⟨b, _, rfl⟩ := hv; rfl)⟩
    have : (s.extract 0 n).data.map (fun b => Value.int .u8 b.toNat) = ((s.data.toList.take n).map fun b => Value.int .u8 b.toNat).toArray := by
      apply Array.toList_inj.1
      simp
    simp only [Builtin.firstCells, this, Sem.run_pure]
  · cases e

theorem asrc_length {size : Nat} {x : Value} {l : List Value} (e : asrc σ size 0 x = some l) : l = [] := by
  unfold asrc at e
  split at e
  · obtain ⟨_, _, _, _, _, h3⟩ := AS.read_some e
    obtain ⟨_, p2, _⟩ := takeCells_some h3
    apply List.eq_nil_of_length_eq_zero
    rw [p2]; simp
  · simp only [Option.some.injEq] at e; exact e.symm
  · simp only [Option.some.injEq] at e; rw [← e]; simp
  · cases e

def appSt (base : Option Addr) (k : Nat) (new : List Value) : Sem Unit := match base with | some a => storeCells (a.add k) new | none => pure ()
theorem zeroCells_size (z : Array Value) (n : Nat) : (Builtin.zeroCells z n).size = n * z.size := by simp [Builtin.zeroCells]

theorem agrow_sim (hE : EnvOk E) (h : Rel μ σ.get w) (hfresh : ∀ b, σ.next ≤ b → b < σ'.next → μ b = none) {ts : Array TypeId} {st xt e0 : TypeId} {k0 : IntKind} (hst : ts[0]? = some st) (hxt : ts[1]? = some xt) (hu1 : E.und st = some (.slice e0)) (hu2 : E.und xt = some (.int k0))
    {base : Option Addr} {sl sc : Nat} {s' x x' : Value} (hs : VRel μ (.slice base sl sc) s') (hx : VRel μ x x') {v : Value} {loud : Bool} (e : agrow E σ e0 base sl sc x = some (v, σ', loud)) (ty : TypeId) :
    MemSim E μ w σ σ' v (Builtin.append_ ts ty #[s', x']) := by
  unfold agrow at e
  split at e
  · rename_i size by_ z k n hsize hbytes hzero
    cases hc : (Nat.beq sl 0 && Nat.beq sc 0 && decide (0 ≤ n) && closed z && Nat.ble (n.toNat * by_) maxNeed && Nat.ble n.toNat maxNeed && Nat.beq z.cells.size size && Nat.blt 0 (n.toNat * size)) with
    | false => rw [hc] at e; cases e
    | true =>
      rw [hc] at e
      simp only [cond_true, Option.some.injEq, Prod.mk.injEq] at e
      obtain ⟨rfl, rfl, rfl⟩ := e
      simp only [Bool.and_eq_true, decide_eq_true_eq] at hc
      obtain ⟨⟨⟨⟨⟨⟨⟨c1, c2⟩, c3⟩, c4⟩, c5⟩, c6⟩, c7⟩, c8⟩ := hc
      obtain rfl := Nat.eq_of_beq_eq_true c1
      obtain rfl := Nat.eq_of_beq_eq_true c2
      have b1 := Nat.le_of_ble_eq_true c5
      have b2 := Nat.le_of_ble_eq_true c6
      have zsz := Nat.eq_of_beq_eq_true c7
      have b3 := Nat.blt_eq.mp c8
      obtain rfl : x' = .int k n := hx.eq_of_flat rfl
      obtain rfl : s' = .slice none 0 0 := hs.eq_of_flat rfl
      obtain ⟨ib, hib, hib2⟩ := hE.bytes _ _ hbytes
      have hmx : maxNeed = 35184372088832 := rfl
      have hmax : IntKind.i64.max = 9223372036854775807 := by decide
      have e48 : (2 : Int) ^ 48 = 281474976710656 := by decide
      have e48n : 2 ^ 48 = 281474976710656 := by decide
      have hw1 : IntKind.i64.wrap n = n := wrap_small c3 (by omega)
      have g0 : ¬ n < 0 := by omega
      have hnn : ((n.toNat : Nat) : Int) = n := Int.toNat_of_nonneg c3
      have g00 : ¬ (n * (ib.bytes : Int) > 2 ^ 48) := by
        rw [hib2, e48, ← hnn]
        have : ((n.toNat * by_ : Nat) : Int) ≤ (maxNeed : Int) := Int.ofNat_le.2 b1
        push_cast at this
        omega
      have hn0 : ¬ n.toNat = 0 := by
        intro q; rw [q] at b3; omega
      have hno : ¬ 0 + n.toNat ≤ 0 := by omega
      have g1 : ¬ (((0 + n.toNat : Nat) : Int) > IntKind.i64.max ∧ (True ∨ ib.bytes = 0)) := by rw [hmax]; omega
      have g2 : ¬ (Builtin.nextslicecap (0 + n.toNat) 0 * ib.bytes > 2 ^ 48) := by
        have := growslice_fits (need := 0 + n.toNat) (old := 0) (bytes := ib.bytes) (by omega) (by rw [hib2, Nat.zero_add]; omega)
        rw [e48n]; omega
      have g3 : ¬ n.toNat * size = 0 := by omega
      have hrun : (Builtin.append_ ts ty #[.slice none 0 0, .int k n]).run E.P w = .ok (.slice (some ⟨w.heap.size, 0, none⟩) (0 + n.toNat) (grownCap w (0 + n.toNat) 0 e0)) (w.drew.alloc (.cells (#[] ++ Builtin.zeroCells z.cells n.toNat ++ Builtin.zeroCells z.cells (grownCap w (0 + n.toNat) 0 e0 - (0 + n.toNat))) e0)) := by
        unfold Builtin.append_
        simp only [hst, hxt, List.getElem?_toArray, List.getElem?_cons_zero, List.getElem?_cons_succ, Sem.run_bind, hE.run_und hu1, hE.run_und hu2, Result.andThen_ok, hE.run_size hsize, Sem.run_pure, if_true, asInt, asIntOf, hw1]
        rw [if_neg g0]
        simp only [Sem.run_bind, Sem.run_pure, Result.andThen_ok, run_typeInfo' hib]
        rw [if_neg g00]
        simp only [Sem.run_bind, Sem.run_pure, Result.andThen_ok]
        rw [if_neg hno]
        simp only [Sem.run_bind, run_typeInfo' hib, Result.andThen_ok]
        rw [if_neg g1]
        simp only [Sem.run_bind, run_typeInfo' hib, Result.andThen_ok]
        rw [if_neg g2]
        simp only [Sem.run_bind, run_choose, Question.forced, Bool.false_eq_true, if_false, Result.andThen_ok, run_typeInfo' hib, run_askRoom, World.drew_eq, Bool.not_true, Builtin.firstCells, Sem.run_pure, hE.run_size hsize]
        rw [if_neg g3]
        simp only [Sem.run_bind, hE.run_zero hzero, newRow, run_newObj, Sem.run_pure, World.alloc_eq, Result.andThen_ok]
        rfl
      have hfr : μ σ.next = none := hfresh _ (Nat.le_refl _) (by simp [AS.alloc])
      have hd : Rel μ σ.get w.drew := h.draw rfl
      have hcap := grownCap_ge w (0 + n.toNat) 0 e0
      generalize grownCap w (0 + n.toNat) 0 e0 = cap at hrun hcap
      have hzz := VRel.cells (VRel.of_closed μ c4)
      have hrow := zeroRow_rel hzz (n.toNat * size)
      have hzc : (Array.range (n.toNat * size)).map (z.cells[· % z.cells.size]!) = Builtin.zeroCells z.cells n.toNat := by unfold Builtin.zeroCells; rw [zsz]
      rw [hzc] at hrow
      have hlen : (zeroRow z.cells (n.toNat * size)).length = n.toNat * size := by simp [zeroRow]
      have hsz1 : (#[] ++ Builtin.zeroCells z.cells n.toNat).size = n.toNat * size := by simp [zeroCells_size, zsz]
      have hsz2 : (#[] ++ Builtin.zeroCells z.cells n.toNat ++ Builtin.zeroCells z.cells (cap - (0 + n.toNat))).size = cap * size := by
        rw [Array.size_append, hsz1, zeroCells_size, zsz, ← Nat.add_mul]; congr 1; omega
      have ho : ORel μ (.cells (zeroRow z.cells (n.toNat * size)) false (some size)) ⟨w.heap.size, 0, some size, cap * size, fun _ => rfl⟩ (some (.cells (#[] ++ Builtin.zeroCells z.cells n.toNat ++ Builtin.zeroCells z.cells (cap - (0 + n.toNat))) e0)) := by
        refine ⟨_, _, (0, 0), rfl, ?_, ?_, rfl, by rw [hsz2]; exact Nat.le_refl _, fun _ => .inl rfl⟩
        · rw [hsz2, hlen]; simp only [Nat.zero_add]; exact Nat.mul_le_mul_right _ (by omega)
        · intro i u u' p q
          simp only [Nat.zero_add] at q
          have hi : i < (zeroRow z.cells (n.toNat * size)).length := (List.getElem?_eq_some_iff.1 p).1
          rw [Array.getElem?_append_left (by rw [hsz1]; omega), Array.empty_append] at q
          exact hrow.2 i u u' (by rw [List.getElem?_toArray]; exact p) q
      obtain ⟨μ', f, r, nn, kk⟩ := Sim.alloc hd hfr (l := ⟨w.heap.size, 0, some size, cap * size, fun _ => rfl⟩) rfl ho
      refine ⟨_, _, hrun, μ', by rw [AS.get_alloc]; exact (Fr.draw (w' := w.drew) rfl).trans f, by rw [AS.get_alloc]; exact r, nn, ?_⟩
      subst kk
      rw [Nat.zero_add]
      exact .slice (.inr ⟨⟨⟨w.heap.size, 0, some size, cap * size, fun _ => rfl⟩, by simp [updMu], rfl, by simp⟩, .inr ⟨⟨w.heap.size, 0, some size, cap * size, fun _ => rfl⟩, size, by simp [updMu], rfl, by omega, by simp⟩⟩)
  · cases e
theorem aappend_sim (hE : EnvOk E) (h : Rel μ σ.get w) (hfresh : ∀ b, σ.next ≤ b → b < σ'.next → μ b = none) {ts : Array TypeId} {s s' x x' : Value} (hs : VRel μ s s') (hx : VRel μ x x') {v : Value} {loud : Bool} (e : aappend E σ ts s x = some (v, σ', loud)) (ty : TypeId) :
    MemSim E μ w σ σ' v (Builtin.append_ ts ty #[s', x']) := by
  unfold aappend at e
  split at e
  · rename_i st xt hst hxt
    split at e
    · rename_i e0 xd base sl sc hu1 hu2
      split at e
      · rename_i k0
        exact agrow_sim hE h hfresh hst hxt hu1 hu2 hs hx e ty
      · rename_i hni
        split at e
        · rename_i size by_ z n hsize hbytes hzero hlen
          split at e
          · rename_i new old hnew hold
            -- what the model does first
            have hzs : (match xd with | .int _ => true | _ => false) = false := by cases xd <;> first | rfl | exact (hni _ rfl).elim
            obtain ⟨ib, hib, hib2⟩ := hE.bytes _ _ hbytes
            have hl := alenOf_sim (E := E) hx hlen w
            -- the slice on the model's side
            have hshape : ∃ base' sc', s' = .slice base' sl sc' ∧ sc ≤ sc' := by
              cases hs with
              | flat hf => exact ⟨_, _, rfl, Nat.le_refl _⟩
              | slice hL =>
                refine ⟨_, _, rfl, ?_⟩
                rcases hL with ⟨_, q, q'⟩ | ⟨_, q | ⟨_, _, _, _, q, _⟩⟩ <;> omega
            obtain ⟨base', sc', rfl, hcap⟩ := hshape
            have hA : sl + n ≤ sc' → ∀ (new' : List Value), (Builtin.firstCells size n x').run E.P w = .ok new'.toArray w → (Builtin.append_ ts ty #[.slice base' sl sc', x']).run E.P w = ((appSt base' (sl * size) new').run E.P w).andThen fun _ w' => .ok (.slice base' (sl + n) sc') w' := by
              intro hroom new' n1
              unfold Builtin.append_
              simp only [hst, hxt, List.getElem?_toArray, List.getElem?_cons_zero, List.getElem?_cons_succ, Sem.run_bind, hE.run_und hu1, hE.run_und hu2, Result.andThen_ok, hE.run_size hsize, Sem.run_pure, hzs, Bool.false_eq_true, if_false, hl]
              rw [if_pos hroom]
              simp only [Bool.not_false, if_true, Sem.run_bind, n1, Result.andThen_ok]
              cases base' <;> simp [appSt]
            have hB : ¬ sl + n ≤ sc' → (sl + n) * by_ ≤ maxNeed → sl + n ≤ maxNeed → ∀ (new' old' : List Value), (Builtin.firstCells size n x').run E.P w.drew = .ok new'.toArray w.drew → (Builtin.firstCells size sl (.slice base' sl sc')).run E.P w.drew = .ok old'.toArray w.drew →
                (Builtin.append_ ts ty #[.slice base' sl sc', x']).run E.P w = .ok (.slice (some ⟨w.heap.size, 0, none⟩) (sl + n) (grownCap w (sl + n) sc' e0)) (w.drew.alloc (.cells (old'.toArray ++ new'.toArray ++ Builtin.zeroCells z.cells (grownCap w (sl + n) sc' e0 - (sl + n))) e0)) := by
              intro hno hb1 hb2 new' old' n1 o1
              have hmx : maxNeed = 35184372088832 := rfl
              have g1 : ¬ (((sl + n : Nat) : Int) > IntKind.i64.max ∧ (False ∨ ib.bytes = 0)) := by
                have : IntKind.i64.max = 9223372036854775807 := by decide
                rw [this]; omega
              have g2 : ¬ (Builtin.nextslicecap (sl + n) sc' * ib.bytes > 2 ^ 48) := by
                have := growslice_fits (need := sl + n) (old := sc') (bytes := ib.bytes) (by omega) (by rw [hib2]; omega)
                have e48 : 2 ^ 48 = 281474976710656 := by decide
                rw [e48]; omega
              unfold Builtin.append_
              simp only [hst, hxt, List.getElem?_toArray, List.getElem?_cons_zero, List.getElem?_cons_succ, Sem.run_bind, hE.run_und hu1, hE.run_und hu2, Result.andThen_ok, hE.run_size hsize, Sem.run_pure, hzs, Bool.false_eq_true, if_false, hl]
              rw [if_neg hno]
              simp only [Bool.not_false, if_true, Sem.run_bind, run_typeInfo' hib, Result.andThen_ok, Bool.false_eq_true]
              rw [if_neg g1]
              simp only [Sem.run_bind, run_typeInfo' hib, Result.andThen_ok]
              rw [if_neg g2]
              simp only [Sem.run_bind, run_choose, Question.forced, Bool.false_eq_true, if_false, Result.andThen_ok, run_typeInfo' hib, run_askRoom, World.drew_eq, o1, n1, hE.run_zero hzero, newRow, run_newObj, Sem.run_pure, World.alloc_eq]
              rfl
            cases hroom : Nat.ble (sl + n) sc with
            | true =>
              rw [hroom] at e
              simp only [cond_true] at e
              have hle : sl + n ≤ sc := Nat.le_of_ble_eq_true hroom
              obtain ⟨new', n1, n2⟩ := asrc_sim (E := E) h hx hlen (Nat.le_refl _) hnew
              have hrun := hA (by omega) new' n1
              have hll := n2.1
              simp only [List.size_toArray] at hll
              split at e
              · rename_i ad
                cases hs with
                | flat hf => simp [Go.VAbs.flat] at hf
                | @slice _ ad' _ _ _ hL =>
                  split at e
                  · -- nothing is appended
                    simp only [Option.some.injEq, Prod.mk.injEq] at e
                    obtain ⟨rfl, rfl, rfl⟩ := e
                    have : new' = [] := List.eq_nil_of_length_eq_zero (by rw [← hll]; rfl)
                    subst this
                    refine memPure (v' := .slice (some ad') (sl + n) sc') h ?_ ?_
                    · rw [hrun]; rfl
                    · refine .slice ?_
                      rcases hL with ⟨q1, q2, q3⟩ | q
                      · exact .inl ⟨by omega, q2, q3⟩
                      · exact .inr q
                  · rename_i hne
                    simp only [Option.map_eq_some_iff, Prod.mk.injEq] at e
                    obtain ⟨σ1, hw, rfl, rfl, rfl⟩ := e
                    rcases hL with ⟨q1, q2, q3⟩ | ⟨hAd, q⟩
                    · exfalso
                      have hn0 : n = 0 := by omega
                      subst hn0
                      exact hne (asrc_length hnew)
                    · obtain ⟨o', w', k1, k2, k3⟩ := write_sim (E := E) h rfl (hAd.add (sl * size)) n2 hw
                      refine ⟨.slice (some ad') (sl + n) sc', w', ?_, ?_⟩
                      · rw [hrun]; simp only [appSt, k2, Result.andThen_ok]
                      · rw [k1, AS.get_put]
                        refine (k3 _ _).mono (Nat.le_refl _) (Nat.le_refl _) ?_
                        rintro μ' _ rfl
                        exact .slice (.inr ⟨hAd, q⟩)
              · cases hz0 : Nat.beq (n * size) 0 with
                | false => rw [hz0] at e; cases e
                | true =>
                  rw [hz0] at e
                  simp only [cond_true, Option.some.injEq, Prod.mk.injEq] at e
                  obtain ⟨rfl, rfl, rfl⟩ := e
                  cases hs with
                  | flat hf =>
                    refine memPure (v' := .slice none (sl + n) sc) h ?_ (.flat rfl)
                    rw [hrun]; rfl
            | false =>
              rw [hroom] at e
              simp only [cond_false] at e
              have hgt : ¬ sl + n ≤ sc := fun hh => by rw [Nat.ble_eq_true_of_le hh] at hroom; cases hroom
              cases hc : (closed z && Nat.ble ((sl + n) * by_) maxNeed && Nat.ble (sl + n) maxNeed && Nat.beq z.cells.size size && Nat.beq (old ++ new).length ((sl + n) * size) && (old ++ new).all (·.oneCell')) with
              | false => rw [hc] at e; cases e
              | true =>
                rw [hc] at e
                simp only [cond_true] at e
                simp only [Bool.and_eq_true] at hc
                obtain ⟨⟨⟨⟨⟨c1, c2⟩, c3⟩, c4⟩, c5⟩, c6⟩ := hc
                have b1 := Nat.le_of_ble_eq_true c2
                have b2 := Nat.le_of_ble_eq_true c3
                have zsz := Nat.eq_of_beq_eq_true c4
                have hlen2 := Nat.eq_of_beq_eq_true c5
                -- a new row
                have realloc : ¬ sl + n ≤ sc' → ∀ (hfr : μ σ.next = none), ∃ v' w', (Builtin.append_ ts ty #[.slice base' sl sc', x']).run E.P w = .ok v' w' ∧
                    Sim μ σ.get w σ.next (σ.next + 1) (upd σ.get σ.next (.cells (old ++ new) false (some size))) w' (fun μ' => VRel μ' (.slice (some ⟨σ.next, 0, none⟩) (sl + n) (sl + n)) v') := by
                  intro hno hfr
                  have hd : Rel μ σ.get w.drew := h.draw rfl
                  obtain ⟨new', n1, n2⟩ := asrc_sim (E := E) hd hx hlen (Nat.le_refl _) hnew
                  obtain ⟨old', o1, o2⟩ := asrc_sim (E := E) (k := sl) hd hs rfl (Nat.le_refl _) hold
                  have hrun := hB hno b1 b2 new' old' n1 o1
                  have hcap := grownCap_ge w (sl + n) sc' e0
                  generalize grownCap w (sl + n) sc' e0 = cap at hrun hcap
                  have hon := VRels.append o2 n2
                  have hsz1 : (old'.toArray ++ new'.toArray).size = (sl + n) * size := by rw [← hon.1]; simpa using hlen2
                  have hsz2 : (old'.toArray ++ new'.toArray ++ Builtin.zeroCells z.cells (cap - (sl + n))).size = cap * size := by
                    rw [Array.size_append, hsz1, zeroCells_size, zsz, ← Nat.add_mul]; congr 1; omega
                  have ho : ORel μ (.cells (old ++ new) false (some size)) ⟨w.heap.size, 0, some size, cap * size, fun _ => rfl⟩ (some (.cells (old'.toArray ++ new'.toArray ++ Builtin.zeroCells z.cells (cap - (sl + n))) e0)) := by
                    refine ⟨_, _, (0, 0), rfl, ?_, ?_, rfl, by rw [hsz2]; exact Nat.le_refl _, fun _ => .inl rfl⟩
                    · rw [hsz2, hlen2]; simp only [Nat.zero_add]; exact Nat.mul_le_mul_right _ hcap
                    · intro i u u' p q
                      simp only [Nat.zero_add] at q
                      have hi : i < (old ++ new).length := (List.getElem?_eq_some_iff.1 p).1
                      rw [Array.getElem?_append_left (by rw [hsz1]; omega)] at q
                      refine hon.2 i u u' ?_ q
                      rw [List.append_toArray, List.getElem?_toArray]
                      exact p
                  obtain ⟨μ', f, r, nn, k⟩ := Sim.alloc hd hfr (l := ⟨w.heap.size, 0, some size, cap * size, fun _ => rfl⟩) rfl ho
                  refine ⟨_, _, hrun, μ', (Fr.draw (w' := w.drew) rfl).trans f, r, nn, ?_⟩
                  subst k
                  exact .slice (.inr ⟨⟨⟨w.heap.size, 0, some size, cap * size, fun _ => rfl⟩, by simp [updMu], rfl, by simp⟩, .inr ⟨⟨w.heap.size, 0, some size, cap * size, fun _ => rfl⟩, size, by simp [updMu], rfl, hcap, by simp⟩⟩)
                split at e
                · rename_i ad
                  split at e
                  · rename_i c ro hblk
                    simp only [Option.some.injEq, Prod.mk.injEq] at e
                    obtain ⟨rfl, rfl, rfl⟩ := e
                    have hcc : sc' = sc := by
                      cases hs with
                      | flat hf => simp [Go.VAbs.flat] at hf
                      | slice hL =>
                        rcases hL with ⟨_, q2, q3⟩ | ⟨_, q | ⟨l, s, q1, q2, q3, _⟩⟩
                        · omega
                        · exact q.symm
                        · obtain ⟨_, _, _, _, _, _, o4, _⟩ := h.obj _ l _ q1 hblk
                          rw [q2] at o4; cases o4
                    obtain ⟨v', w', k1, k2⟩ := realloc (by rw [hcc]; exact hgt) (hfresh _ (Nat.le_refl _) (by simp [AS.alloc]))
                    exact ⟨v', w', k1, by rw [AS.get_alloc]; exact k2⟩
                  · rename_i c g0 hblk
                    cases hg0 : Nat.beq g0 size with
                    | false => rw [hg0] at e; cases e
                    | true =>
                      rw [hg0] at e
                      simp only [cond_true, Option.some.injEq, Prod.mk.injEq] at e
                      obtain ⟨rfl, rfl, rfl⟩ := e
                      have hgs : g0 = size := Nat.eq_of_beq_eq_true hg0
                      subst hgs
                      have hget : ((σ.alloc (.cells (old ++ new) false (some g0))).put ad.block .dead).get = upd (upd σ.get σ.next (.cells (old ++ new) false (some g0))) ad.block .dead := by
                        rw [AS.get_put, AS.get_alloc]
                      by_cases hno : sl + n ≤ sc'
                      · -- in its own place
                        cases hs with
                        | flat hf => simp [Go.VAbs.flat] at hf
                        | @slice _ ad' _ _ _ hL =>
                          rcases hL with ⟨q1, q2, q3⟩ | ⟨hAd, q⟩
                          · omega
                          · rcases q with q | ⟨l, s, q1, q2, q3, q4⟩
                            · omega
                            · obtain ⟨l0, a1, a2, a3⟩ := hAd
                              rw [a1] at q1; cases q1
                              obtain ⟨arr, t0, fr, p1, p2, p3, p4, p5, p6⟩ := h.obj _ l _ a1 hblk
                              have hss : s = g0 := by rw [q2] at p4; cases p4; rfl
                              subst hss
                              obtain ⟨new', n1, n2⟩ := asrc_sim (E := E) h hx hlen (Nat.le_refl _) hnew
                              have hrun := hA hno new' n1
                              have hll := n2.1
                              simp only [List.size_toArray] at hll
                              -- the old cells
                              obtain ⟨r1, cc, rr, gg, r2, r3⟩ := AS.read_some (show σ.read ad (sl * s) = some old from hold)
                              rw [hblk] at r2; cases r2
                              obtain ⟨t1, t2, t3⟩ := takeCells_some r3
                              have hnl : sl * s + new.length = (sl + n) * s := by
                                have := hlen2; rw [List.length_append, t2] at this; exact this
                              have hfit : (sl + n) * s ≤ sc' * s := Nat.mul_le_mul_right _ hno
                              have hone : new'.all (·.oneCell') = true := by
                                rw [List.all_eq_true]
                                intro u hu
                                obtain ⟨i, hi⟩ := List.getElem?_of_mem hu
                                have hi' : i < new.length := by have := (List.getElem?_eq_some_iff.1 hi).1; omega
                                have hr := n2.2 i new[i] u (by simp [hi']) (by simpa using hi)
                                rw [hr.oneCell]
                                have := List.all_eq_true.1 c6 new[i] (List.mem_append_right _ (List.getElem_mem hi'))
                                exact this
                              subst a3
                              simp only at q4
                              obtain ⟨arr', s1, s2, s3⟩ := storeCells_row E.P new' (l.sh + ad.off + sl * s) 0 arr w p1 (by omega) (p6 rfl) hone
                              refine ⟨.slice (some ⟨l.blk, l.sh + ad.off, none⟩) (sl + n) sc', rowW w l.blk arr' t0 fr, ?_, ?_⟩
                              · rw [hrun]
                                simp only [appSt, Addr.add_none, s3, Result.andThen_ok]
                              · rw [hget]
                                refine (Sim.regrow h a1 (hfresh _ (Nat.le_refl _) (by simp [AS.alloc, AS.put])) hblk p1 s1 (o := l.sh + ad.off) (by rw [hlen2]; omega) (p6 rfl) ?_).mono (Nat.le_refl _) (by simp [AS.alloc, AS.put]) ?_
                                · intro i u u' hu hu'
                                  rw [s2] at hu'
                                  by_cases hi : i < old.length
                                  · rw [List.getElem?_append_left hi] at hu
                                    rw [if_neg (by omega)] at hu'
                                    rw [t3 i (by omega)] at hu
                                    refine p3 (ad.off + i) u u' hu ?_
                                    rw [← hu']; congr 1; omega
                                  · rw [List.getElem?_append_right (by omega)] at hu
                                    have hi2 : i - old.length < new.length := (List.getElem?_eq_some_iff.1 hu).1
                                    rw [if_pos (by omega)] at hu'
                                    refine n2.2 (i - old.length) u u' (by simpa using hu) ?_
                                    rw [List.getElem?_toArray, ← hu']
                                    congr 1; omega
                                · rintro μ' _ rfl
                                  refine .slice (.inr ⟨⟨⟨l.blk, l.sh + ad.off, some s, l.tot, fun q => nomatch q⟩, by simp [updMu], rfl, by simp⟩, .inr ⟨⟨l.blk, l.sh + ad.off, some s, l.tot, fun q => nomatch q⟩, s, by simp [updMu], rfl, hno, ?_⟩⟩)
                                  exact q4
                      · obtain ⟨v', w', k1, k2⟩ := realloc hno (hfresh _ (Nat.le_refl _) (by simp [AS.alloc, AS.put]))
                        refine ⟨v', w', k1, ?_⟩
                        rw [hget]
                        obtain ⟨μ1, f1, r1, nn1, kk1⟩ := k2
                        obtain ⟨μ2, f2, r2, nn2, kk2⟩ := Sim.kill r1 ad.block 0 0
                        subst kk2
                        exact ⟨μ2, f1.trans f2, r2, nn1, kk1⟩
                  · cases e
                · simp only [Option.some.injEq, Prod.mk.injEq] at e
                  obtain ⟨rfl, rfl, rfl⟩ := e
                  have hcc : sc' = sc := by
                    cases hs with
                    | flat hf => rfl
                  obtain ⟨v', w', k1, k2⟩ := realloc (by rw [hcc]; exact hgt) (hfresh _ (Nat.le_refl _) (by simp [AS.alloc]))
                  exact ⟨v', w', k1, by rw [AS.get_alloc]; exact k2⟩
          · cases e
        · cases e
    · cases e
  · cases e
end
end
end Go.VAbs

/-! The abstract machine, part 15: the other operations that look at memory, put together. -/
namespace Go.VAbs
open Go
set_option linter.unusedVariables false
noncomputable section
set_option linter.unusedSimpArgs false

section
variable {E : Env} {μ : Mu} {T : ATmps} {a : Act} {g : AH} {w : World} {σ σ' : AS}

theorem acopy_sim (hE : EnvOk E) (h : Rel μ σ.get w) {ts : Array TypeId} {d d' s s' : Value} (hd : VRel μ d d') (hs : VRel μ s s') {v : Value} {loud : Bool} (e : acopy E σ ts d s = some (v, σ', loud)) (ty : TypeId) :
    MemSim E μ w σ σ' v (Builtin.copy_ ts ty #[d', s']) := by
  unfold acopy at e
  split at e
  · rename_i dt hdt
    split at e
    · rename_i e0 base dl dc hu
      split at e
      · rename_i size sl hsize hlen
        split at e
        · rename_i cs hcs
          obtain ⟨cs', n1, n2⟩ := asrc_sim (E := E) h hs hlen (Nat.min_le_left _ _) hcs
          have hl := alenOf_sim (E := E) hs hlen w
          have hll := n2.1
          simp only [List.size_toArray] at hll
          have hshape : ∃ base' dc', d' = .slice base' dl dc' := by
            cases hd with
            | flat hf => exact ⟨_, _, rfl⟩
            | slice hL => exact ⟨_, _, rfl⟩
          obtain ⟨base', dc', rfl⟩ := hshape
          have hrun : (Builtin.copy_ ts ty #[.slice base' dl dc', s']).run E.P w = ((appSt base' 0 cs').run E.P w).andThen fun _ w' => .ok (goInt (Nat.min sl dl : Nat)) w' := by
            unfold Builtin.copy_
            simp only [hdt, List.getElem?_toArray, List.getElem?_cons_zero, List.getElem?_cons_succ, Sem.run_bind, hE.run_und hu, Result.andThen_ok, hE.run_size hsize, Sem.run_pure, hl, n1]
            cases base' <;> simp [appSt, Addr.add]
          split at e
          · rename_i ad
            cases hd with
            | flat hf => simp [Go.VAbs.flat] at hf
            | @slice _ ad' _ _ _ hL =>
              split at e
              · simp only [Option.some.injEq, Prod.mk.injEq] at e
                obtain ⟨rfl, rfl, rfl⟩ := e
                have : cs' = [] := List.eq_nil_of_length_eq_zero (by rw [← hll]; rfl)
                subst this
                exact memPure h (by rw [hrun]; rfl) (goInt_rel _ _)
              · rename_i hne
                simp only [Option.map_eq_some_iff, Prod.mk.injEq] at e
                obtain ⟨σ1, hw, rfl, rfl, rfl⟩ := e
                rcases hL with ⟨q1, q2, q3⟩ | ⟨hAd, q⟩
                · exfalso
                  have hn0 : Nat.min sl dl = 0 := by rw [q1]; exact Nat.min_zero sl
                  rw [hn0] at hcs
                  exact hne (asrc_length hcs)
                · obtain ⟨o', w', k1, k2, k3⟩ := write_sim (E := E) h rfl hAd n2 hw
                  refine ⟨goInt (Nat.min sl dl : Nat), w', ?_, ?_⟩
                  · rw [hrun]
                    have : ad'.add 0 = ad' := by unfold Addr.add; rw [if_pos rfl]
                    simp only [appSt, this, k2, Result.andThen_ok]
                  · rw [k1, AS.get_put]
                    exact (k3 _ _).mono (Nat.le_refl _) (Nat.le_refl _) (fun μ' _ _ => goInt_rel _ _)
          · simp only [Option.some.injEq, Prod.mk.injEq] at e
            obtain ⟨rfl, rfl, rfl⟩ := e
            cases hd with
            | flat hf => exact memPure h (by rw [hrun]; rfl) (goInt_rel _ _)
        · cases e
      · cases e
    · cases e
  · cases e

theorem aclear_sim (hE : EnvOk E) (h : Rel μ σ.get w) {ts : Array TypeId} {d d' : Value} (hd : VRel μ d d') {v : Value} {loud : Bool} (e : aclear E σ ts d = some (v, σ', loud)) (ty : TypeId) :
    MemSim E μ w σ σ' v (Builtin.clear_ ts ty #[d']) := by
  have ht0 : ∀ μ', VRel μ' (.tuple #[]) (.tuple #[]) := fun μ' => VRel.of_closed μ' rfl
  unfold aclear at e
  split at e
  · rename_i t ht
    split at e
    · rename_i e0 base n c hu
      split at e
      · rename_i z hz
        simp only [Option.some.injEq, Prod.mk.injEq] at e
        obtain ⟨rfl, rfl, rfl⟩ := e
        obtain rfl : d' = .slice none n c := hd.eq_of_flat rfl
        refine memPure h (v' := .tuple #[]) ?_ (ht0 _)
        unfold Builtin.clear_
        simp only [ht, List.getElem?_toArray, List.getElem?_cons_zero, Sem.run_bind, hE.run_und hu, Result.andThen_ok, Sem.run_pure]
      · rename_i z ad hz
        cases hd with
        | flat hf => simp [Go.VAbs.flat] at hf
        | @slice _ ad' _ _ c' hL =>
          cases hn : Nat.beq n 0 with
          | true =>
            rw [hn] at e
            simp only [cond_true, Option.some.injEq, Prod.mk.injEq] at e
            obtain ⟨rfl, rfl, rfl⟩ := e
            obtain rfl := Nat.eq_of_beq_eq_true hn
            refine memPure h (v' := .tuple #[]) ?_ (ht0 _)
            unfold Builtin.clear_
            simp only [ht, List.getElem?_toArray, List.getElem?_cons_zero, Sem.run_bind, hE.run_und hu, Result.andThen_ok, Sem.run_pure]
          | false =>
            rw [hn] at e
            simp only [cond_false] at e
            cases hcl : closed z with
            | false => rw [hcl] at e; cases e
            | true =>
              rw [hcl] at e
              simp only [cond_true, Option.map_eq_some_iff, Prod.mk.injEq] at e
              obtain ⟨σ1, hw, rfl, rfl, rfl⟩ := e
              have hn0 : n ≠ 0 := by rintro rfl; cases hn
              rcases hL with ⟨q1, _, _⟩ | ⟨hAd, q⟩
              · exact absurd q1 hn0
              · have hzz := VRel.cells (VRel.of_closed μ hcl)
                have hrow := zeroRow_rel hzz (n * z.cells.size)
                have hrow2 : VRels μ (zeroRow z.cells (n * z.cells.size)).toArray ((Builtin.zeroCells z.cells n).toList).toArray := by
                  have : ((Builtin.zeroCells z.cells n).toList).toArray = (Array.range (n * z.cells.size)).map (z.cells[· % z.cells.size]!) := rfl
                  rw [this]; exact hrow
                obtain ⟨o', w', k1, k2, k3⟩ := write_sim (E := E) h rfl hAd hrow2 hw
                refine ⟨.tuple #[], w', ?_, ?_⟩
                · unfold Builtin.clear_
                  obtain ⟨m, rfl⟩ : ∃ m, n = m + 1 := ⟨n - 1, by omega⟩
                  simp only [ht, List.getElem?_toArray, List.getElem?_cons_zero, Sem.run_bind, hE.run_und hu, Result.andThen_ok, Sem.run_pure, hE.run_zero hz, k2]
                · rw [k1, AS.get_put]
                  exact (k3 _ _).mono (Nat.le_refl _) (Nat.le_refl _) (fun μ' _ _ => ht0 μ')
      · cases e
    · cases e
  · cases e
theorem bytes_back : ∀ (l : List Value) (bs : List UInt8), toBytes l = some bs → l.length = bs.length ∧ ∀ (j : Nat) (hj : j < bs.length), ∃ n : Int, l[j]? = some (.int .u8 n) ∧ UInt8.ofNat n.toNat = bs[j]
  | [], bs, h => by simp only [toBytes, Option.some.injEq] at h; subst h; exact ⟨rfl, fun j hj => by simp at hj⟩
  | v :: r, bs, h => by
    unfold toBytes at h
    split at h
    · rename_i heq; cases heq
    · rename_i n r' heq
      cases heq
      split at h
      · rename_i l hl
        simp only [Option.some.injEq] at h; subst h
        obtain ⟨k1, k2⟩ := bytes_back r l hl
        refine ⟨by simp [k1], ?_⟩
        intro j hj
        cases j with
        | zero => exact ⟨n, rfl, rfl⟩
        | succ j => simpa using k2 j (by simpa using hj)
      · cases h
    · cases h

theorem conv_run (P : Program) (w : World) : ∀ (l : List Value) (bs : List UInt8), toBytes l = some bs → ∀ (acc : ByteArray), (forIn (m := Sem) l acc (fun c s =>
    match c with
    | .int .u8 n => pure (ForInStep.yield (s.push (UInt8.ofNat n.toNat)))
    | _ => do
      stuck (α := Unit) "bytesToString: byte expected"
      pure (ForInStep.yield s))).run P w = .ok ⟨acc.data ++ bs.toArray⟩ w
  | [], bs, h, acc => by simp only [toBytes, Option.some.injEq] at h; subst h; simp
  | v :: r, bs, h, acc => by
    unfold toBytes at h
    split at h
    · rename_i heq; cases heq
    · rename_i n r' heq
      cases heq
      split at h
      · rename_i l hl
        simp only [Option.some.injEq] at h; subst h
        simp only [List.forIn_cons, Sem.run_bind, Sem.run_pure, Result.andThen_ok]
        rw [conv_run P w r l hl]
        simp [ByteArray.push]
      · cases h
    · cases h

theorem amem_sim (hE : EnvOk E) (hG : GlOk E μ) (hT : TRel μ T a.tmps) (h : Rel μ σ.get w) (hfresh : ∀ b, σ.next ≤ b → b < σ'.next → μ b = none) {o : Oper} {v : Value} {loud : Bool} (e : amem E T o.op σ = some (v, σ', loud)) :
    ∃ w', (∃ v', (execOp a.eval o).run E.P w = .ok (.value v') w' ∧ Sim μ σ.get w σ.next σ'.next σ'.get w' (fun μ' => VRel μ' v v')) ∨
      ((execOp a.eval o).run E.P w = .ok .skip w' ∧ v = undef ∧ Sim μ σ.get w σ.next σ'.next σ'.get w' (fun _ => True)) := by
  have EV := fun {x : Operand} {v : Value} (h : ev E T x = some v) => ev_sim (a := a) hG hT h
  have fin : ∀ {s : Sem Value} {v : Value}, MemSim E μ w σ σ' v s → ∃ w', (∃ v', (do pure (Next.value (← s)) : Sem Next).run E.P w = .ok (.value v') w' ∧ Sim μ σ.get w σ.next σ'.next σ'.get w' (fun μ' => VRel μ' v v')) ∨
      ((do pure (Next.value (← s)) : Sem Next).run E.P w = .ok .skip w' ∧ v = undef ∧ Sim μ σ.get w σ.next σ'.next σ'.get w' (fun _ => True)) := by
    rintro s v ⟨v', w', h1, h2⟩
    exact ⟨w', .inl ⟨v', by rw [Sem.run_bind, h1]; rfl, h2⟩⟩
  have finU : ∀ {s : Sem Unit} {v : Value}, v = undef → MemSimU E μ w σ σ' s → ∃ w', (∃ v', (do s; pure Next.skip : Sem Next).run E.P w = .ok (.value v') w' ∧ Sim μ σ.get w σ.next σ'.next σ'.get w' (fun μ' => VRel μ' v v')) ∨
      ((do s; pure Next.skip : Sem Next).run E.P w = .ok .skip w' ∧ v = undef ∧ Sim μ σ.get w σ.next σ'.next σ'.get w' (fun _ => True)) := by
    rintro s v hv ⟨w', h1, h2⟩
    exact ⟨w', .inr ⟨by rw [Sem.run_bind, h1]; rfl, hv, h2⟩⟩
  unfold execOp
  cases ho : o.op with
  | lookup t x i ok =>
    rw [ho] at e
    simp only [amem] at e
    split at e
    · rename_i m k h1 h2
      simp only [Option.map_eq_some_iff, Prod.mk.injEq] at e
      obtain ⟨v0, q, rfl, rfl, rfl⟩ := e
      obtain ⟨v', k1, k2⟩ := alookup_sim hE h (EV h1) (EV h2) q
      exact fin (memPure h k1 k2)
    · cases e
  | mapUpdate t m k x =>
    rw [ho] at e
    simp only [amem] at e
    split at e
    · rename_i m0 k0 v0 h1 h2 h3
      simp only [Option.map_eq_some_iff, Prod.mk.injEq] at e
      obtain ⟨σ1, q, rfl, rfl, rfl⟩ := e
      exact finU rfl (amapUpdate_sim hE h (EV h1) (EV h2) (EV h3) q)
    · cases e
  | insert t m k x =>
    rw [ho] at e
    simp only [amem] at e
    split at e
    · rename_i m0 k0 v0 h1 h2 h3
      simp only [Option.map_eq_some_iff, Prod.mk.injEq] at e
      obtain ⟨σ1, q, rfl, rfl, rfl⟩ := e
      exact finU rfl (amapUpdate_sim hE h (EV h1) (EV h2) (EV h3) q)
    · cases e
  | mapEntry t m k =>
    rw [ho] at e
    simp only [amem] at e
    split at e
    · rename_i m0 k0 h1 h2
      simp only [Option.map_eq_some_iff, Prod.mk.injEq] at e
      obtain ⟨⟨v1, σ1⟩, q, rfl, rfl, rfl⟩ := e
      exact fin (amapEntry_sim hE h (EV h1) (EV h2) q)
    · cases e
  | entryStore t m s x =>
    rw [ho] at e
    simp only [amem] at e
    split at e
    · rename_i m0 s0 v0 h1 h2 h3
      simp only [Option.map_eq_some_iff, Prod.mk.injEq] at e
      obtain ⟨σ1, q, rfl, rfl, rfl⟩ := e
      exact finU rfl (aentryStore_sim h (EV h1) (EV h2) (EV h3) q)
    · cases e
  | next it str =>
    rw [ho] at e
    cases str with
    | false =>
      simp only [amem] at e
      split at e
      · rename_i v0 h1
        exact fin (amnext_sim h (EV h1) e o.type)
      · cases e
    | true =>
      simp only [amem] at e
      split at e
      · rename_i b h1
        split at e
        · rename_i s p hb
          have hr := EV h1
          dsimp only
          generalize a.eval it = u at hr ⊢
          cases hr with
          | flat hf => simp [Go.VAbs.flat] at hf
          | @ptr _ ad' hA =>
            obtain ⟨l, l1, l2, l3⟩ := hA
            obtain ⟨o1, o2⟩ := h.obj _ l _ l1 hb
            rw [o1] at l3
            subst l3
            have hget : (getObj l.blk).run E.P w = .ok (.stringIter s p) w := by simp [getObj, Sem.run, o2]
            cases hlt : Nat.blt p s.size with
            | true =>
              rw [hlt] at e
              simp only [cond_true, Option.some.injEq, Prod.mk.injEq] at e
              obtain ⟨rfl, rfl, rfl⟩ := e
              have hp : p < s.size := by simpa [Nat.blt_eq] using hlt
              have hb2 : l.blk < w.heap.size := (Array.getElem?_eq_some_iff.1 o2).1
              apply fin
              refine ⟨.tuple #[.bool true, goInt p, .int .i32 (Utf8.decode s p).1], { w with heap := w.heap.setIfInBounds l.blk (.stringIter s (p + (Utf8.decode s p).2)) }, ?_, ?_⟩
              · simp only [Instr.next, Sem.run_bind, hget, Result.andThen_ok]
                rw [if_pos hp]
                simp only [Sem.run_bind, setObj, Sem.run, o2, Result.andThen_ok, Sem.run_pure]
              · rw [AS.get_put]
                have ho' : ({ w with heap := w.heap.setIfInBounds l.blk (.stringIter s (p + (Utf8.decode s p).2)) } : World).heap[l.blk]? = some (.stringIter s (p + (Utf8.decode s p).2)) := by
                  show (w.heap.setIfInBounds l.blk _)[l.blk]? = _
                  rw [Array.getElem?_setIfInBounds, if_pos rfl, if_pos hb2]
                have ho2 : ORel μ (.iter s (p + (Utf8.decode s p).2)) l ({ w with heap := w.heap.setIfInBounds l.blk (.stringIter s (p + (Utf8.decode s p).2)) } : World).heap[l.blk]? := ⟨o1, ho'⟩
                refine (Sim.put (w' := { w with heap := w.heap.setIfInBounds l.blk (.stringIter s (p + (Utf8.decode s p).2)) }) h l1 ⟨_, hb, rfl⟩ _ _ rfl rfl rfl (by simp) ?_ ho2).mono (Nat.le_refl _) (Nat.le_refl _) (fun μ' _ _ => VRel.of_closed (v := .tuple #[.bool true, goInt p, .int .i32 (Utf8.decode s p).1]) μ' rfl)
                intro c hc
                show (w.heap.setIfInBounds l.blk _)[c]? = _
                rw [Array.getElem?_setIfInBounds, if_neg (fun e => hc e.symm)]
            | false =>
              rw [hlt] at e
              simp only [cond_false, Option.some.injEq, Prod.mk.injEq] at e
              obtain ⟨rfl, rfl, rfl⟩ := e
              have hp : ¬ p < s.size := by intro hh; rw [← Nat.blt_eq, hlt] at hh; cases hh
              apply fin
              refine memPure h ?_ (VRel.of_closed μ rfl)
              simp only [Instr.next, Sem.run_bind, hget, Result.andThen_ok]
              rw [if_neg hp]
              rfl
        · cases e
      · cases e
  | range t x =>
    rw [ho] at e
    simp only [amem] at e
    split at e
    · rename_i v0 h1
      exact fin (arange_sim hE h hfresh (EV h1) e)
    · cases e
  | entry it =>
    rw [ho] at e
    simp only [amem] at e
    split at e
    · rename_i v0 h1
      exact fin (amentry_sim h (EV h1) e)
    · cases e
  | convert s d x =>
    rw [ho] at e
    simp only [amem] at e
    split at e
    · rename_i e0 ad n c hs hd hx
      split at e
      · rename_i he
        have hr := EV hx
        dsimp only
        generalize a.eval x = u at hr ⊢
        split at e
        · rw [hr.eq_of_flat rfl]
          simp only [Option.some.injEq, Prod.mk.injEq] at e
          obtain ⟨rfl, rfl, rfl⟩ := e
          apply fin
          refine memPure (v' := .string .empty) h ?_ (.flat rfl)
          unfold convert
          rw [Sem.run_bind, hE.run_und hs, Result.andThen_ok, Sem.run_bind, hE.run_und hd, Result.andThen_ok]
          dsimp only
          rw [Sem.run_bind, hE.run_und he]
          rfl
        · rename_i ad0
          split at e
          · rename_i l hl
            split at e
            · rename_i bs hbs
              simp only [Option.some.injEq, Prod.mk.injEq] at e
              obtain ⟨rfl, rfl, rfl⟩ := e
              apply fin
              refine memPure (v' := .string ⟨bs.toArray⟩) h ?_ (.flat rfl)
              cases hr with
              | flat hf => simp [Go.VAbs.flat] at hf
              | @slice _ ad' _ _ c' hL =>
                have hload : ∃ l' : List Value, (loadCells ad' n).run E.P w = .ok l'.toArray w ∧ VRels μ l.toArray l'.toArray := by
                  rcases hL with ⟨q, _⟩ | ⟨hA, _⟩
                  · subst q
                    obtain ⟨_, _, _, _, _, h3⟩ := AS.read_some hl
                    obtain ⟨_, p2, _⟩ := takeCells_some h3
                    have : l = [] := List.eq_nil_of_length_eq_zero p2
                    subst this
                    exact ⟨[], by simp [loadCells, loadCellsFrom], VRels.nil μ⟩
                  · exact read_sim (E := E) h rfl hA hl
                obtain ⟨l', q1, q2⟩ := hload
                obtain ⟨b1, b2⟩ := bytes_back l bs hbs
                have hll : l' = l := by
                  have := q2.1
                  simp only [List.size_toArray] at this
                  apply List.ext_getElem?
                  intro j
                  by_cases hj : j < bs.length
                  · obtain ⟨z, z1, z2⟩ := b2 j hj
                    have hj' : j < l'.length := by omega
                    have hr := q2.2 j (.int .u8 z) l'[j] (by simpa using z1) (by simp [hj'])
                    rw [z1, List.getElem?_eq_getElem hj', hr.eq_of_flat rfl]
                  · rw [List.getElem?_eq_none (by omega), List.getElem?_eq_none (by omega)]
                subst hll
                unfold convert
                rw [Sem.run_bind, hE.run_und hs, Result.andThen_ok, Sem.run_bind, hE.run_und hd, Result.andThen_ok]
                dsimp only
                rw [Sem.run_bind, hE.run_und he]
                simp only [Result.andThen_ok, Conv.bytesToString, Sem.run_bind, q1]
                rw [List.forIn_toArray]
                have hc := conv_run E.P w l' bs hbs ByteArray.empty
                refine (congrArg (fun r => Result.andThen r fun a w' => Sem.run E.P (pure (Value.string a)) w') hc).trans ?_
                have he0 : ByteArray.empty.data = #[] := rfl
                simp [he0]
            · cases e
          · cases e
      · cases e
    · rename_i e0 e1 ad n c hs hd hx
      split at e
      · rename_i cells gr he hblk
        cases hsd : (Nat.beq s d && Nat.blt 0 n) with
        | false => rw [hsd] at e; cases e
        | true =>
          rw [hsd] at e
          simp only [cond_true, Option.some.injEq, Prod.mk.injEq] at e
          obtain ⟨rfl, rfl, rfl⟩ := e
          rw [Bool.and_eq_true] at hsd
          have hsd' : s = d := Nat.eq_of_beq_eq_true hsd.1
          have hn0 : 0 < n := by simpa [Nat.blt_eq] using hsd.2
          subst hsd'
          have hr := EV hx
          dsimp only
          generalize a.eval x = u at hr ⊢
          cases hr with
          | flat hf => simp [Go.VAbs.flat] at hf
          | @slice _ ad' _ _ c' hL =>
            have he2 : e1 = e0 := by rw [hs] at hd; cases hd; rfl
            subst he2
            have hconv : (convert s s (.slice (some ad') n c')).run E.P w = ((markStringish ad').run E.P w).andThen fun _ w' => .ok (.slice (some ad') n c') w' := by
              unfold convert
              rw [Sem.run_bind, hE.run_und hs, Result.andThen_ok, Sem.run_bind, hE.run_und hs, Result.andThen_ok]
              dsimp only
              rw [Sem.run_bind, hE.run_und he, Result.andThen_ok]
              have : (s == s) = true := by simp
              rw [this]
              simp only [Sem.run_bind, Sem.run_pure]
            rcases hL with ⟨q, _⟩ | ⟨hA, hcc⟩
            · omega
            · obtain ⟨l, l1, l2, l3⟩ := hA
              subst l3
              obtain ⟨arr, t0, fr, p1, p2, p3, p4, p5, p6⟩ := h.obj _ l _ l1 hblk
              have hlt := (Array.getElem?_eq_some_iff.1 p1).1
              have hmark : (markStringish ⟨l.blk, l.sh + ad.off, none⟩).run E.P w = .ok () (w.freeze ⟨l.blk, arr.size, none⟩ 1) := by
                have hsh : w.shape? l.blk = some (t0, arr.size) := by simp [World.shape?, p1]
                simp only [markStringish, Sem.run_bind, run_shape, hsh, Result.andThen_ok, run_freeze]
              apply fin
              refine ⟨_, _, by rw [hconv, hmark]; rfl, ?_⟩
              obtain ⟨fr', hf1, hf2⟩ : ∃ fr' : Nat × Nat, arr.size ≤ fr'.1 ∧ (w.freeze ⟨l.blk, arr.size, none⟩ 1).heap[l.blk]? = some (.cells arr t0 fr') := by
                obtain ⟨flo, fhi⟩ := fr
                refine ⟨if flo == fhi then (arr.size, arr.size + 1) else (min flo arr.size, max fhi (arr.size + 1)), ?_, ?_⟩
                · have := p6 rfl
                  simp only at this
                  by_cases q : flo = fhi
                  · simp [q]
                  · have : (flo == fhi) = false := by simp [q]
                    rw [this]
                    simp only [Bool.false_eq_true, if_false]
                    omega
                · simp only [World.freeze]
                  rw [if_neg (by decide)]
                  simp only [Array.getElem?_modify, if_true, p1, Option.map_some]
              have hk : ∀ c, c ≠ l.blk → (w.freeze ⟨l.blk, arr.size, none⟩ 1).heap[c]? = w.heap[c]? := by
                intro c hc
                simp only [World.freeze]
                rw [if_neg (by decide)]
                simp only [Array.getElem?_modify]
                rw [if_neg (fun e => hc e.symm)]
              have hs2 : (w.freeze ⟨l.blk, arr.size, none⟩ 1).heap.size = w.heap.size := by
                simp only [World.freeze]
                rw [if_neg (by decide)]
                simp
              have hr1 : (w.freeze ⟨l.blk, arr.size, none⟩ 1).os = w.os ∧ (w.freeze ⟨l.blk, arr.size, none⟩ 1).tape = w.tape ∧ (w.freeze ⟨l.blk, arr.size, none⟩ 1).output = w.output := by
                simp only [World.freeze]
                rw [if_neg (by decide)]
                exact ⟨rfl, rfl, rfl⟩
              have ho2 : ORel μ (.cells cells false gr) l (w.freeze ⟨l.blk, arr.size, none⟩ 1).heap[l.blk]? := ⟨arr, t0, fr', hf2, p2, p3, p4, p5, fun _ => .inr hf1⟩
              have hput := Sim.put h l1 ⟨_, hblk, rfl⟩ σ.next σ.next hr1.1 hr1.2.1 hr1.2.2 hs2 hk ho2
              rw [upd_same hblk] at hput
              refine hput.mono (Nat.le_refl _) (Nat.le_refl _) ?_
              rintro μ' _ rfl
              exact .slice (.inr ⟨⟨l, l1, l2, rfl⟩, hcc⟩)
      · cases e
    · cases e
  | call c =>
    rw [ho] at e
    obtain ⟨callee, args, ts⟩ := c
    simp only [amem] at e
    split at e
    · rename_i s x hv
      obtain ⟨p, q, hp, h1, h2⟩ := evs_two (a := a) hv hG hT
      have hm : args.map a.eval = #[a.eval p, a.eval q] := by apply Array.toList_inj.1; simp [hp]
      obtain ⟨v', w', k1, k2⟩ := aappend_sim hE h hfresh h1 h2 e o.type
      exact ⟨w', .inl ⟨v', resolve_builtin _ _ _ _ _ _ _ fun consts => by rw [hm]; exact run_value k1, k2⟩⟩
    · rename_i s x hv
      obtain ⟨p, q, hp, h1, h2⟩ := evs_two (a := a) hv hG hT
      have hm : args.map a.eval = #[a.eval p, a.eval q] := by apply Array.toList_inj.1; simp [hp]
      obtain ⟨v', w', k1, k2⟩ := acopy_sim hE h h1 h2 e o.type
      exact ⟨w', .inl ⟨v', resolve_builtin _ _ _ _ _ _ _ fun consts => by rw [hm]; exact run_value k1, k2⟩⟩
    · rename_i m k hv
      obtain ⟨p, q, hp, h1, h2⟩ := evs_two (a := a) hv hG hT
      have hm : args.map a.eval = #[a.eval p, a.eval q] := by apply Array.toList_inj.1; simp [hp]
      simp only [Option.map_eq_some_iff, Prod.mk.injEq] at e
      obtain ⟨σ1, q1, rfl, rfl, rfl⟩ := e
      obtain ⟨v', w', k1, k2⟩ := adelete_sim hE h h1 h2 q1 o.type
      exact ⟨w', .inl ⟨v', resolve_builtin _ _ _ _ _ _ _ fun consts => by rw [hm]; exact run_value k1, k2⟩⟩
    · rename_i x hv
      obtain ⟨p, hp, h1⟩ := evs_one (a := a) hv hG hT
      have hm : args.map a.eval = #[a.eval p] := by apply Array.toList_inj.1; simp [hp]
      obtain ⟨v', w', k1, k2⟩ := aclear_sim hE h h1 e o.type
      exact ⟨w', .inl ⟨v', resolve_builtin _ _ _ _ _ _ _ fun consts => by rw [hm]; exact run_value k1, k2⟩⟩
    · rename_i x hv
      obtain ⟨p, hp, h1⟩ := evs_one (a := a) hv hG hT
      have hm : args.map a.eval = #[a.eval p] := by apply Array.toList_inj.1; simp [hp]
      split at e
      · rename_i t ht
        simp only [Option.map_eq_some_iff, Prod.mk.injEq] at e
        obtain ⟨r, q1, rfl, rfl, rfl⟩ := e
        have hcap : (Builtin.cap_ ts o.type #[a.eval p]).run E.P w = .ok r w ∧ VRel μ r r := by
          unfold acap at q1
          generalize a.eval p = u at h1
          split at q1
          · rename_i hu
            simp only [Option.some.injEq] at q1; subst q1
            rw [h1.eq_of_flat rfl]
            refine ⟨?_, .flat rfl⟩
            unfold Builtin.cap_
            simp only [ht, List.getElem?_toArray, List.getElem?_cons_zero]
            rw [Sem.run_bind, hE.run_und hu]; rfl
          · rename_i ad n c hu
            split at q1
            · rename_i cs ro hblk
              simp only [Option.some.injEq] at q1; subst q1
              cases h1 with
              | flat hf => simp [Go.VAbs.flat] at hf
              | @slice _ ad' _ _ c' hL =>
                have hcc : c' = c := by
                  rcases hL with ⟨_, q2, q3⟩ | ⟨_, q | ⟨l, s, q1, q2, q3, _⟩⟩
                  · omega
                  · exact q.symm
                  · obtain ⟨_, _, _, _, _, _, o4, _⟩ := h.obj _ l _ q1 hblk
                    rw [q2] at o4; cases o4
                subst hcc
                refine ⟨?_, .flat rfl⟩
                unfold Builtin.cap_
                simp only [ht, List.getElem?_toArray, List.getElem?_cons_zero]
                rw [Sem.run_bind, hE.run_und hu]; rfl
            · cases q1
          · rename_i n hu
            simp only [Option.some.injEq] at q1; subst q1
            refine ⟨?_, .flat rfl⟩
            unfold Builtin.cap_
            simp only [ht, List.getElem?_toArray, List.getElem?_cons_zero]
            rw [Sem.run_bind, hE.run_und hu]
            cases u <;> rfl
          · cases q1
        exact ⟨w, .inl ⟨r, resolve_builtin _ _ _ _ _ _ _ fun consts => by rw [hm]; exact run_value hcap.1, Sim.pure h _ _ hcap.2⟩⟩
      · cases e
    · rename_i b hv
      obtain ⟨p, hp, h1⟩ := evs_one (a := a) hv hG hT
      have hm : args.map a.eval = #[a.eval p] := by apply Array.toList_inj.1; simp [hp]
      split at e
      · rename_i t ht
        split at e
        · rename_i kt et es cl hu hblk
          simp only [Option.some.injEq, Prod.mk.injEq] at e
          obtain ⟨rfl, rfl, rfl⟩ := e
          obtain ⟨l, hl, hq⟩ := mapArg h1 rfl
          obtain ⟨_, es', p1, p2⟩ := h.map hl hblk
          have hsz : es'.size = es.length := by have := p2.1; simpa using this.symm
          refine ⟨w, .inl ⟨goInt es.length, resolve_builtin _ _ _ _ _ _ _ fun consts => ?_, Sim.pure h _ _ (goInt_rel _ _)⟩⟩
          rw [hm, hq]
          refine run_value (w := w) ?_
          unfold Builtin.len_
          simp only [ht, List.getElem?_toArray, List.getElem?_cons_zero]
          rw [Sem.run_bind, hE.run_und hu]
          simp only [Result.andThen_ok, Sem.run_bind, run_getObj_map p1, Sem.run_pure, hsz]
        · cases e
      · cases e
    · cases e
  | _ => rw [ho] at e; simp [amem] at e
end
end
end Go.VAbs
