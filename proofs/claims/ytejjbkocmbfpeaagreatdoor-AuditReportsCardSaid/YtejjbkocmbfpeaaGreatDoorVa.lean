/- The values, heaps and the executor of an abstract machine for the model's code, and how they stand to the model's. -/
import Derived.Calls
import Derived.Orders
import Derived.Laws.World
import Derived.Laws.Sem
import Derived.Laws.Entries
/-! The abstract machine, part 1: values, heaps and how they stand to the model's. -/
namespace Go.VAbs
open Go
noncomputable section

/-! ### A trie over numbers -/
inductive Tr (α : Type) where
  | e : Tr α
  | n (l : Tr α) (v : Option α) (r : Tr α) : Tr α
  | b (h : Nat → Option α) : Tr α

namespace Tr
def get {α : Type} : Tr α → Nat → Option α
  | .e, _ => none
  | .n l v r, k => match k with
    | 0 => v
    | k + 1 => cond (Nat.beq (k % 2) 0) (l.get (k / 2)) (r.get (k / 2))
  | .b h, k => h k
/-- A heap of which only what is said is known: what is not, is asked of h. -/
def upd1 {α : Type} (h : Nat → Option α) (k : Nat) (a : α) : Nat → Option α := fun j => Bool.rec (motive := fun _ => Option α) (h j) (some a) (Nat.beq j k)
/-- One path, with one leaf; and a leaf put into a tree. By the recursors themselves: the kernel has less to do. -/
noncomputable def single {α : Type} (a : α) (f : Nat) : Nat → Tr α :=
  Nat.rec (motive := fun _ => Nat → Tr α) (fun _ => .e)
    (fun _ ih k => Bool.rec (Bool.rec (.n (ih (Nat.div (Nat.sub k 1) 2)) none .e) (.n .e none (ih (Nat.div (Nat.sub k 1) 2))) (Nat.beq (Nat.mod k 2) 0)) (.n .e (some a) .e) (Nat.beq k 0)) f
noncomputable def set {α : Type} (t : Tr α) (k : Nat) (a : α) : Tr α :=
  Tr.rec (motive := fun _ => Nat → Tr α) (fun k => single a (Nat.succ k) k)
    (fun l v r il ir k => Bool.rec (Bool.rec (.n (il (Nat.div (Nat.sub k 1) 2)) v r) (.n l v (ir (Nat.div (Nat.sub k 1) 2))) (Nat.beq (Nat.mod k 2) 0)) (.n l (some a) r) (Nat.beq k 0))
    (fun h k => .b (upd1 h k a)) t k
theorem upd1_get {α : Type} (h : Nat → Option α) (k : Nat) (a : α) (j : Nat) : upd1 h k a j = if j = k then some a else h j := by
  unfold upd1
  cases hb : Nat.beq j k with
  | true => rw [if_pos (Nat.eq_of_beq_eq_true hb)]
  | false => rw [if_neg (fun e => by rw [e, Nat.beq_refl] at hb; cases hb)]
theorem upd1_self {α : Type} {h : Nat → Option α} {k : Nat} {a : α} (e : h k = some a) : upd1 h k a = h := by
  funext j
  rw [upd1_get]
  split
  · rename_i q; rw [q, e]
  · rfl
theorem single_get {α : Type} (a : α) : ∀ (f k j : Nat), k < f → (single a f k).get j = if j = k then some a else none
  | 0, _, _, h => absurd h (by omega)
  | f + 1, 0, j, _ => by
    show (Tr.n .e (some a) .e).get j = _
    cases j with
    | zero => rfl
    | succ j =>
      rw [if_neg (by omega)]
      simp only [get]
      cases Nat.beq (j % 2) 0 <;> rfl
  | f + 1, k + 1, j, h => by
    show (Bool.rec (motive := fun _ => Tr α) (.n (single a f (k / 2)) none .e) (.n .e none (single a f (k / 2))) (Nat.beq ((k + 1) % 2) 0)).get j = _
    have ih := fun j => single_get a f (k / 2) j (by omega)
    by_cases hk : (k + 1) % 2 = 0
    · rw [hk]
      show (Tr.n .e none (single a f (k / 2))).get j = _
      cases j with
      | zero => simp [get]
      | succ j =>
        simp only [get]
        cases hj : Nat.beq (j % 2) 0 with
        | true => have := Nat.eq_of_beq_eq_true hj; rw [if_neg (by omega)]; rfl
        | false =>
          have hj' : j % 2 ≠ 0 := fun e => by rw [e] at hj; cases hj
          simp only [cond_false]
          rw [ih]
          by_cases e : j = k
          · subst e; simp
          · rw [if_neg (by omega), if_neg (by omega)]
    · have hb : Nat.beq ((k + 1) % 2) 0 = false := by cases h : Nat.beq ((k + 1) % 2) 0 with | false => rfl | true => exact absurd (Nat.eq_of_beq_eq_true h) hk
      rw [hb]
      show (Tr.n (single a f (k / 2)) none .e).get j = _
      cases j with
      | zero => simp [get]
      | succ j =>
        simp only [get]
        cases hj : Nat.beq (j % 2) 0 with
        | true =>
          have := Nat.eq_of_beq_eq_true hj
          simp only [cond_true]
          rw [ih]
          by_cases e : j = k
          · subst e; simp
          · rw [if_neg (by omega), if_neg (by omega)]
        | false =>
          have hj' : j % 2 ≠ 0 := fun e => by rw [e] at hj; cases hj
          rw [if_neg (by omega)]; rfl
theorem get_set {α : Type} : ∀ (t : Tr α) (k : Nat) (a : α) (j : Nat), (t.set k a).get j = if j = k then some a else t.get j
  | .e, k, a, j => by
    show (single a (Nat.succ k) k).get j = _
    rw [single_get a _ _ _ (Nat.lt_succ_self k)]; rfl
  | .n l v r, 0, a, j => by
    show (Tr.n l (some a) r).get j = _
    cases j with
    | zero => rfl
    | succ j => rw [if_neg (by omega)]; rfl
  | .n l v r, k + 1, a, j => by
    show (Bool.rec (motive := fun _ => Tr α) (.n (l.set (k / 2) a) v r) (.n l v (r.set (k / 2) a)) (Nat.beq ((k + 1) % 2) 0)).get j = _
    by_cases hk : (k + 1) % 2 = 0
    · rw [hk]
      show (Tr.n l v (r.set (k / 2) a)).get j = _
      cases j with
      | zero => simp [get]
      | succ j =>
        simp only [get]
        cases hj : Nat.beq (j % 2) 0 with
        | true => have := Nat.eq_of_beq_eq_true hj; rw [if_neg (by omega)]; rfl
        | false =>
          have hj' : j % 2 ≠ 0 := fun e => by rw [e] at hj; cases hj
          simp only [cond_false]
          rw [get_set r]
          by_cases e : j = k
          · subst e; simp
          · rw [if_neg (by omega), if_neg (by omega)]
    · have hb : Nat.beq ((k + 1) % 2) 0 = false := by cases h : Nat.beq ((k + 1) % 2) 0 with | false => rfl | true => exact absurd (Nat.eq_of_beq_eq_true h) hk
      rw [hb]
      show (Tr.n (l.set (k / 2) a) v r).get j = _
      cases j with
      | zero => simp [get]
      | succ j =>
        simp only [get]
        cases hj : Nat.beq (j % 2) 0 with
        | true =>
          have := Nat.eq_of_beq_eq_true hj
          simp only [cond_true]
          rw [get_set l]
          by_cases e : j = k
          · subst e; simp
          · rw [if_neg (by omega), if_neg (by omega)]
        | false =>
          have hj' : j % 2 ≠ 0 := fun e => by rw [e] at hj; cases hj
          rw [if_neg (by omega)]; rfl
  | .b h, k, a, j => upd1_get h k a j
end Tr

/-! ### Values without addresses -/
/-- One level: nothing in it that leads to memory. -/
def flat : Value → Bool
  | .bool _ | .int _ _ | .float _ _ | .complex _ _ _ | .string _ | .pointer none | .slice none _ _ | .map none | .chan none | .nilFunc | .nilIface => true
  | _ => false
/-- To a depth. -/
def closedN : Nat → Value → Bool
  | 0, v => flat v
  | n + 1, v => match v with
    | .agg cs => cs.toList.all (closedN n)
    | .tuple cs => cs.toList.all (closedN n)
    | .iface _ x => closedN n x
    | .func _ a b => a.toList.all (closedN n) && b.toList.all (closedN n)
    | v => flat v
def closed (v : Value) : Bool := closedN 6 v

/-! ### Where the abstract blocks lie -/
structure Loc where
  blk : Nat
  sh : Nat
  grown : Option Nat
  tot : Nat
  ok : grown = none → sh = 0 := by simp
abbrev Mu := Nat → Option Loc

def ARel (μ : Mu) (a a' : Addr) : Prop := ∃ l, μ a.block = some l ∧ a.spot = none ∧ a' = ⟨l.blk, l.sh + a.off, none⟩

def LRel (μ : Mu) (a a' : Addr) (n cap cap' : Nat) : Prop :=
  (n = 0 ∧ cap = 0 ∧ cap' = 0) ∨ (ARel μ a a' ∧ (cap = cap' ∨ ∃ l s, μ a.block = some l ∧ l.grown = some s ∧ cap ≤ cap' ∧ a'.off + cap' * s ≤ l.tot))

inductive VRel (μ : Mu) : Value → Value → Prop
  | flat {v : Value} (h : flat v = true) : VRel μ v v
  | ptr {a a' : Addr} (h : ARel μ a a') : VRel μ (.pointer (some a)) (.pointer (some a'))
  | slice {a a' : Addr} {n c c' : Nat} (h : LRel μ a a' n c c') : VRel μ (.slice (some a) n c) (.slice (some a') n c')
  | map {b : Nat} {l : Loc} (h : μ b = some l) : VRel μ (.map (some b)) (.map (some l.blk))
  | func {fn : Fn} {f f' c c' : Array Value} (hf : f.size = f'.size) (hc : c.size = c'.size)
      (h1 : ∀ (i : Nat) (v v' : Value), f[i]? = some v → f'[i]? = some v' → VRel μ v v')
      (h2 : ∀ (i : Nat) (v v' : Value), c[i]? = some v → c'[i]? = some v' → VRel μ v v') : VRel μ (.func fn f c) (.func fn f' c')
  | iface {t : TypeId} {v v' : Value} (h : VRel μ v v') : VRel μ (.iface t v) (.iface t v')
  | agg {c c' : Array Value} (hc : c.size = c'.size) (h : ∀ (i : Nat) (v v' : Value), c[i]? = some v → c'[i]? = some v' → VRel μ v v') : VRel μ (.agg c) (.agg c')
  | tuple {c c' : Array Value} (hc : c.size = c'.size) (h : ∀ (i : Nat) (v v' : Value), c[i]? = some v → c'[i]? = some v' → VRel μ v v') : VRel μ (.tuple c) (.tuple c')

/-- Two rows of values, one by one. -/
def VRels (μ : Mu) (c c' : Array Value) : Prop := c.size = c'.size ∧ ∀ (i : Nat) (v v' : Value), c[i]? = some v → c'[i]? = some v' → VRel μ v v'

def Mu.le (μ μ' : Mu) : Prop := ∀ b l, μ b = some l → μ' b = some l
theorem Mu.le.refl (μ : Mu) : μ.le μ := fun _ _ h => h
theorem Mu.le.trans {a b c : Mu} (h : a.le b) (k : b.le c) : a.le c := fun x l hx => k x l (h x l hx)

theorem ARel.mono {μ μ' : Mu} (h : μ.le μ') {a a' : Addr} (k : ARel μ a a') : ARel μ' a a' := let ⟨l, h1, h2⟩ := k; ⟨l, h _ _ h1, h2⟩
theorem LRel.mono {μ μ' : Mu} (h : μ.le μ') {a a' : Addr} {n c c' : Nat} (k : LRel μ a a' n c c') : LRel μ' a a' n c c' := by
  rcases k with k | ⟨k1, k2⟩
  · exact .inl k
  · refine .inr ⟨k1.mono h, k2.imp id ?_⟩
    rintro ⟨l, s, h1, h2⟩
    exact ⟨l, s, h _ _ h1, h2⟩
theorem VRel.mono {μ μ' : Mu} (h : μ.le μ') {v v' : Value} (k : VRel μ v v') : VRel μ' v v' := by
  induction k with
  | flat h => exact .flat h
  | ptr k => exact .ptr (k.mono h)
  | slice k => exact .slice (k.mono h)
  | map k => exact .map (h _ _ k)
  | func hf hc _ _ i1 i2 => exact .func hf hc i1 i2
  | iface _ i => exact .iface i
  | agg hc _ i => exact .agg hc i
  | tuple hc _ i => exact .tuple hc i
theorem VRels.mono {μ μ' : Mu} (h : μ.le μ') {c c' : Array Value} (k : VRels μ c c') : VRels μ' c c' := ⟨k.1, fun i v v' a b => (k.2 i v v' a b).mono h⟩

theorem VRel.of_closedN (μ : Mu) : ∀ (n : Nat) (v : Value), closedN n v = true → VRel μ v v
  | 0, v, h => .flat h
  | n + 1, v, h => by
    have key : ∀ cs : Array Value, cs.toList.all (closedN n) = true → ∀ (i : Nat) (v v' : Value), cs[i]? = some v → cs[i]? = some v' → VRel μ v v' := by
      intro cs hh i v v' h1 h2
      rw [h1] at h2; cases h2
      exact VRel.of_closedN μ n v (List.all_eq_true.1 hh v (by rw [Array.mem_toList_iff]; exact Array.mem_of_getElem? h1))
    cases v <;> first
      | exact .flat h
      | (simp only [closedN, Bool.and_eq_true] at h; exact .func rfl rfl (key _ h.1) (key _ h.2))
      | (simp only [closedN] at h; exact .iface (VRel.of_closedN μ n _ h))
      | (simp only [closedN] at h; exact .agg rfl (key _ h))
      | (simp only [closedN] at h; exact .tuple rfl (key _ h))
theorem VRel.of_closed (μ : Mu) {v : Value} (h : closed v = true) : VRel μ v v := VRel.of_closedN μ 6 v h

theorem VRel.eq_of_flat {μ : Mu} {v v' : Value} (h : Go.VAbs.flat v = true) (k : VRel μ v v') : v' = v := by cases k <;> first | rfl | simp [Go.VAbs.flat] at h
theorem VRel.eq_of_closedN {μ : Mu} : ∀ (n : Nat) (v v' : Value), closedN n v = true → VRel μ v v' → v' = v
  | 0, v, v', h, k => k.eq_of_flat h
  | n + 1, v, v', h, k => by
    have key : ∀ cs cs' : Array Value, cs.size = cs'.size → cs.toList.all (closedN n) = true → (∀ (i : Nat) (v v' : Value), cs[i]? = some v → cs'[i]? = some v' → VRel μ v v') → cs' = cs := by
      intro cs cs' hs hh hr
      refine Array.ext hs.symm ?_
      intro i h1 h2
      exact VRel.eq_of_closedN n _ _ (List.all_eq_true.1 hh _ (by rw [Array.mem_toList_iff]; exact Array.getElem_mem h2)) (hr i _ _ (Array.getElem?_eq_getElem h2) (Array.getElem?_eq_getElem h1))
    cases k with
    | flat _ => rfl
    | ptr _ => simp [closedN, Go.VAbs.flat] at h
    | slice _ => simp [closedN, Go.VAbs.flat] at h
    | map _ => simp [closedN, Go.VAbs.flat] at h
    | func hf hc h1 h2 => simp only [closedN, Bool.and_eq_true] at h; rw [key _ _ hf h.1 h1, key _ _ hc h.2 h2]
    | iface k => simp only [closedN] at h; rw [VRel.eq_of_closedN n _ _ h k]
    | agg hc h1 => simp only [closedN] at h; rw [key _ _ hc h h1]
    | tuple hc h1 => simp only [closedN] at h; rw [key _ _ hc h h1]
theorem VRel.eq_of_closed {μ : Mu} {v v' : Value} (h : closed v = true) (k : VRel μ v v') : v' = v := VRel.eq_of_closedN 6 v v' h k

theorem VRels.get {μ : Mu} {c c' : Array Value} (h : VRels μ c c') {i : Nat} {v : Value} (k : c[i]? = some v) : ∃ v', c'[i]? = some v' ∧ VRel μ v v' := by
  obtain ⟨hi, he⟩ := Array.getElem?_eq_some_iff.1 k
  have hi' : i < c'.size := h.1 ▸ hi
  exact ⟨c'[i], Array.getElem?_eq_getElem hi', h.2 i _ _ k (Array.getElem?_eq_getElem hi')⟩

/-! ### Heaps -/
inductive AObj where
  | cells (c : List Value) (ro : Bool) (grown : Option Nat)
  | map (es : List MapEntry) (clock : Nat)
  | iter (s : ByteArray) (pos : Nat)
  | miter (m : Option Nat) (since : Nat) (seen : List Nat) (last : Nat)
  | dead
def AObj.own : AObj → Bool
  | .cells _ ro _ => !ro
  | .map .. | .iter .. | .miter .. => true
  | .dead => false
def AObj.alive : AObj → Bool
  | .dead => false
  | _ => true

structure AS where
  heap : Tr AObj
  next : Nat
  ws : List Nat
def AS.get (σ : AS) (b : Nat) : Option AObj := σ.heap.get b
def AS.alloc (σ : AS) (o : AObj) : AS := { σ with heap := σ.heap.set σ.next o, next := σ.next + 1 }
def AS.put (σ : AS) (b : Nat) (o : AObj) : AS := { σ with heap := σ.heap.set b o, ws := b :: σ.ws }
abbrev AH := Nat → Option AObj
def upd (g : AH) (b : Nat) (o : AObj) : AH := fun x => if x = b then some o else g x
theorem AS.get_alloc (σ : AS) (o : AObj) : (σ.alloc o).get = upd σ.get σ.next o := by funext x; exact Tr.get_set _ _ _ _
theorem AS.get_put (σ : AS) (b : Nat) (o : AObj) : (σ.put b o).get = upd σ.get b o := by funext x; exact Tr.get_set _ _ _ _

def Own (g : AH) (b : Nat) : Prop := ∃ o, g b = some o ∧ o.own = true
def Alive (g : AH) (b : Nat) : Prop := ∃ o, g b = some o ∧ o.alive = true
theorem Own.alive {g : AH} {b : Nat} (h : Own g b) : Alive g b := by
  obtain ⟨o, h1, h2⟩ := h
  refine ⟨o, h1, ?_⟩
  cases o <;> first | rfl | simp [AObj.own] at h2

/-- How one object stands to the model's. -/
def ORel (μ : Mu) : AObj → Loc → Option Obj → Prop
  | .cells c ro gr, l, o => ∃ arr t fr, o = some (.cells arr t fr) ∧ l.sh + c.length ≤ arr.size ∧ (∀ (i : Nat) (v v' : Value), c[i]? = some v → arr[l.sh + i]? = some v' → VRel μ v v') ∧
      l.grown = gr ∧ l.tot ≤ arr.size ∧ (ro = false → fr.1 = fr.2 ∨ arr.size ≤ fr.1)
  | .map es cl, l, o => l.sh = 0 ∧ ∃ es', o = some (.map es' cl) ∧ es.length = es'.size ∧
      ∀ (i : Nat) (e e' : MapEntry), es[i]? = some e → es'[i]? = some e' → e'.key = e.key ∧ closed e.key = true ∧ e'.born = e.born ∧ VRel μ e.val e'.val
  | .iter s p, l, o => l.sh = 0 ∧ o = some (.stringIter s p)
  | .miter m since seen last, l, o => l.sh = 0 ∧ ∃ m', o = some (.mapIter m' since seen.toArray last) ∧ (match m with
    | none => m' = none
    | some b => ∃ l', μ b = some l' ∧ m' = some l'.blk)
  | .dead, _, _ => True

structure Rel (μ : Mu) (g : AH) (w : World) : Prop where
  size : ∀ b l, μ b = some l → l.blk < w.heap.size
  obj : ∀ b l o, μ b = some l → g b = some o → ORel μ o l w.heap[l.blk]?
  inj : ∀ b b' l l', μ b = some l → μ b' = some l' → b ≠ b' → l.blk = l'.blk → Own g b → ¬ Alive g b'

/-- What a step leaves alone. -/
structure Fr (μ : Mu) (g : AH) (w : World) (μ' : Mu) (g' : AH) (w' : World) : Prop where
  os : w'.os = w.os
  tape : w'.tape = w.tape
  output : w'.output = w.output
  size : w.heap.size ≤ w'.heap.size
  keep : ∀ c, c < w.heap.size → (∀ b l, μ b = some l → l.blk = c → ¬ Own g b) → w'.heap[c]? = w.heap[c]?
  ext : μ.le μ'
  fresh : ∀ b l, μ b = none → μ' b = some l → w.heap.size ≤ l.blk ∨ ∃ b0 l0, μ b0 = some l0 ∧ l0.blk = l.blk ∧ Own g b0
  own : ∀ b l, μ b = some l → Own g' b → Own g b
  alive : ∀ b l, μ b = some l → Alive g' b → Alive g b

theorem Fr.refl (μ : Mu) (g : AH) (w : World) : Fr μ g w μ g w :=
  ⟨rfl, rfl, rfl, Nat.le_refl _, fun _ _ _ => rfl, .refl μ, fun b l h k => (by rw [h] at k; cases k), fun _ _ _ h => h, fun _ _ _ h => h⟩
theorem Fr.trans {μ μ1 μ2 : Mu} {g g1 g2 : AH} {w w1 w2 : World} (h : Fr μ g w μ1 g1 w1) (k : Fr μ1 g1 w1 μ2 g2 w2) : Fr μ g w μ2 g2 w2 := by
  refine ⟨k.os.trans h.os, k.tape.trans h.tape, k.output.trans h.output, Nat.le_trans h.size k.size, ?_, h.ext.trans k.ext, ?_, ?_, fun b l hb ha => h.alive b l hb (k.alive b l (h.ext b l hb) ha)⟩
  · intro c hc hno
    rw [k.keep c (Nat.lt_of_lt_of_le hc h.size) ?_, h.keep c hc hno]
    intro b l hb hl ho
    cases hb0 : μ b with
    | some l0 =>
      have := h.ext b l0 hb0
      rw [hb] at this; cases this
      exact hno b l hb0 hl (h.own b l hb0 ho)
    | none =>
      rcases h.fresh b l hb0 hb with h1 | ⟨b0, l0, h1, h2, h3⟩
      · omega
      · exact hno b0 l0 h1 (h2.trans hl) h3
  · intro b l hb hb2
    cases hb1 : μ1 b with
    | some l1 =>
      have := k.ext b l1 hb1
      rw [hb2] at this; cases this
      exact h.fresh b l hb hb1
    | none =>
      rcases k.fresh b l hb1 hb2 with h1 | ⟨b0, l0, h1, h2, h3⟩
      · exact .inl (Nat.le_trans h.size h1)
      · cases hb0 : μ b0 with
        | some l00 =>
          have := h.ext b0 l00 hb0
          rw [h1] at this; cases this
          exact .inr ⟨b0, l0, hb0, h2, h.own b0 l0 hb0 h3⟩
        | none =>
          rcases h.fresh b0 l0 hb0 h1 with h4 | ⟨b4, l4, h4, h5, h6⟩
          · exact .inl (h2 ▸ h4)
          · exact .inr ⟨b4, l4, h4, h5.trans h2, h6⟩
  · intro b l hb ho
    exact h.own b l hb (k.own b l (h.ext b l hb) ho)

/-- A step from (g, w) to (g', w'); new blocks have numbers from lo up to hi. -/
def Sim (μ : Mu) (g : AH) (w : World) (lo hi : Nat) (g' : AH) (w' : World) (K : Mu → Prop) : Prop :=
  ∃ μ', Fr μ g w μ' g' w' ∧ Rel μ' g' w' ∧ (∀ b, μ b = none → μ' b ≠ none → lo ≤ b ∧ b < hi) ∧ K μ'

theorem Sim.pure {μ : Mu} {g : AH} {w : World} (h : Rel μ g w) (lo hi : Nat) {K : Mu → Prop} (k : K μ) : Sim μ g w lo hi g w K :=
  ⟨μ, .refl μ g w, h, fun _ h k => absurd h k, k⟩

theorem Rel.draw {μ : Mu} {g : AH} {w w' : World} (h : Rel μ g w) (e : w'.heap = w.heap) : Rel μ g w' :=
  ⟨fun b l hb => e ▸ h.size b l hb, fun b l o hb ho => e ▸ h.obj b l o hb ho, h.inj⟩
theorem Fr.draw {μ : Mu} {g : AH} {w w' : World} (e : w' = { w with drawn := w'.drawn }) : Fr μ g w μ g w' := by
  rw [e]
  exact ⟨rfl, rfl, rfl, Nat.le_refl _, fun _ _ _ => rfl, .refl μ, fun b l h k => (by rw [h] at k; cases k), fun _ _ _ h => h, fun _ _ _ h => h⟩

theorem Sim.trans {μ : Mu} {g g1 g2 : AH} {w w1 w2 : World} {a b c d : Nat} {K1 : Mu → Prop} {K2 : Mu → Mu → Prop} (h : Sim μ g w a b g1 w1 K1)
    (k : ∀ μ1, Rel μ1 g1 w1 → Fr μ g w μ1 g1 w1 → (∀ b', μ b' = none → μ1 b' ≠ none → a ≤ b' ∧ b' < b) → K1 μ1 → Sim μ1 g1 w1 c d g2 w2 (K2 μ1)) (ha : a ≤ c) (hd : b ≤ d) :
    Sim μ g w a d g2 w2 (fun μ2 => ∃ μ1, Mu.le μ1 μ2 ∧ K1 μ1 ∧ K2 μ1 μ2) := by
  obtain ⟨μ1, f1, r1, n1, k1⟩ := h
  obtain ⟨μ2, f2, r2, n2, k2⟩ := k μ1 r1 f1 n1 k1
  refine ⟨μ2, f1.trans f2, r2, ?_, μ1, f2.ext, k1, k2⟩
  intro x hx hx2
  cases hx1 : μ1 x with
  | some l => have := n1 x hx (by rw [hx1]; simp); omega
  | none => have := n2 x hx1 hx2; omega
theorem Sim.mono {μ : Mu} {g g' : AH} {w w' : World} {a b a' b' : Nat} {K K' : Mu → Prop} (h : Sim μ g w a b g' w' K) (ha : a' ≤ a) (hb : b ≤ b') (hk : ∀ μ', μ.le μ' → K μ' → K' μ') : Sim μ g w a' b' g' w' K' := by
  obtain ⟨μ', f, r, n, k⟩ := h
  exact ⟨μ', f, r, fun x h1 h2 => by have := n x h1 h2; omega, hk _ f.ext k⟩
end
end Go.VAbs

/-! The abstract machine, part 2: what it does. -/
namespace Go.VAbs
open Go
set_option linter.unusedVariables false
noncomputable section

/-- A program of memory-free operations, run. -/
def pureRun {α : Type} (P : Program) : Sem α → Option α
  | .pure a => some a
  | .program k => pureRun P (k P)
  | .mark _ k => pureRun P k
  | _ => none

def pureVal (P : Program) (s : Sem Value) : Option Value :=
  match pureRun P s with
  | some r => cond (closed r) (some r) none
  | none => none

structure Env where
  P : Program
  und : TypeId → Option TypeDesc
  size : TypeId → Option Nat
  bytes : TypeId → Option Nat
  zero : TypeId → Option Value
  fn : Nat → Option Func
  glob : Nat → Option Nat
  prim : Nat → Option (List Value → AS → Option (Value × AS))

structure ATmps where
  tr : Tr Value
  size : Nat
def ATmps.get (T : ATmps) (t : Nat) : Value := (T.tr.get t).getD undef
def ATmps.put (T : ATmps) (dst : Option Nat) (v : Value) : Option ATmps :=
  match dst with
  | none => some T
  | some d => cond (Nat.blt d T.size) (some { T with tr := T.tr.set d v }) none

def Env.isAgg (E : Env) (t : TypeId) : Option Bool :=
  match E.und t with
  | some (.struct _) | some (.array _ _) => some true
  | some _ => some false
  | none => none

def ev (E : Env) (T : ATmps) : Operand → Option Value
  | .tmp t => some (T.get t)
  | .const v => cond (closed v) (some v) none
  | .global g => (E.glob g).map fun b => .pointer (some ⟨b, 0, none⟩)
  | .func f => some (.func (.func f) #[] #[])
def evs (E : Env) (T : ATmps) : List Operand → Option (List Value)
  | [] => some []
  | x :: r => match ev E T x with
    | some v => match evs E T r with
      | some l => some (v :: l)
      | none => none
    | none => none
def evParts (E : Env) (T : ATmps) : List (Nat × Operand) → Option (List (Nat × Value))
  | [] => some []
  | x :: r => match ev E T x.2 with
    | some v => match evParts E T r with
      | some l => some ((x.1, v) :: l)
      | none => none
    | none => none

/-! ### Operations that look at no memory -/
/-- Two operands, one of them nil, or at one block. -/
def nilEq (E : Env) (t : TypeId) (a b : Value) : Option Bool :=
  match E.und t, a, b with
  | some .bool, .bool x, .bool y => some (x == y)
  | some (.pointer _), .pointer none, .pointer q => some q.isNone
  | some (.pointer _), .pointer _, .pointer none => some false
  | some (.slice _), .slice none _ _, .slice q _ _ => some q.isNone
  | some (.slice _), .slice _ _ _, .slice none _ _ => some false
  | some (.map _ _), .map none, .map q => some q.isNone
  | some (.map _ _), .map _, .map none => some false
  | some (.func _ _ _), .nilFunc, .nilFunc => some true
  | some (.func _ _ _), .nilFunc, .func _ _ _ => some false
  | some (.func _ _ _), .func _ _ _, .nilFunc => some false
  | _, _, _ => none
def isLit : Value → Bool
  | .int _ _ | .string _ => true
  | _ => false
def abin (E : Env) (op : BinOp) (t : TypeId) (x y : Operand) (a b : Value) : Option Value :=
  cond (isLit a && isLit b) (pureVal E.P (binOp op t a b)) <|
  match op, nilEq E t a b with
  | .eql, some r => some (.bool r)
  | .neq, some r => some (.bool !r)
  | _, _ => cond (closed a && closed b) (pureVal E.P (do eqGuard op t x y a b; binOp op t a b)) none

def aconv (E : Env) (src dst : TypeId) (v : Value) : Option Value :=
  match E.und src, E.und dst, v with
  | some _, some (.int k), .int _ n => some (.int k (k.wrap n))
  | some _, some .string, .int _ n => some (.string (Utf8.encode n))
  | some _, some .string, .string s => some (.string s)
  | _, _, _ => none

def apart (E : Env) (t : TypeId) (cs : Array Value) (off : Nat) : Option Value :=
  match E.isAgg t with
  | some true => (E.size t).map fun n => .agg (cs.extract off (off + n))
  | some false => cs[off]?
  | none => none

def aplaces (E : Env) : List Field → Option (List (Nat × Nat))
  | [] => some []
  | f :: r => match E.size f.type with
    | some n => match aplaces E r with
      | some l => some ((f.offset, n) :: l)
      | none => none
    | none => none

def abuild (E : Env) (t : TypeId) (parts : List (Nat × Value)) : Option Value :=
  match E.zero t, E.und t with
  | some z, some (.struct fs) => cond (closed z) (match aplaces E fs.toList with
      | some pl => (Instr.fill (pl.toArray[·]?) z.cells parts).map .agg
      | none => none) none
  | some z, some (.array _ e) => cond (closed z) (match E.size e with
      | some n => (Instr.fill (fun i => some (i * n, n)) z.cells parts).map .agg
      | none => none) none
  | _, _ => none

def abound (x : Value) (y : Nat) : Option Nat :=
  match x with
  | .int _ i => cond (decide (0 ≤ i) && decide (i ≤ (y : Int))) (some i.toNat) none
  | _ => none
def abounds (len cap : Nat) (lo hi mx : Option Value) : Option (Nat × Nat × Nat) :=
  match (match mx with | some v => abound v cap | none => some cap) with
  | none => none
  | some m => match (match hi, mx with | some v, _ => abound v m | none, none => some len | none, some _ => none) with
    | none => none
    | some h => match (match lo with | some v => abound v h | none => some 0) with
      | none => none
      | some l => some (l, h, m)

def evOpt (E : Env) (T : ATmps) : Option Operand → Option (Option Value)
  | none => some none
  | some x => (ev E T x).map some

def aslice (E : Env) (t : TypeId) (x : Value) (lo hi mx : Option Value) : Option Value :=
  match E.und t, x with
  | some .string, .string s => match mx with
    | none => (abounds s.size s.size lo hi none).map fun r => .string (s.extract r.1 r.2.1)
    | some _ => none
  | some (.slice _), .slice none len cap => match abounds len cap lo hi mx, E.und t with
    | some (l, h, m), some (.slice e) => match E.size e with
      | some _ => some (.slice none (h - l) (m - l))
      | none => none
    | _, _ => none
  | some (.array k e), .pointer (some a) => match abounds k k lo hi mx, E.size e with
    | some (l, h, m), some n => some (.slice (some (a.add (l * n))) (h - l) (m - l))
    | _, _ => none
  | _, _ => none

def grOk (gr : Option Nat) (n : Nat) : Bool := match gr with | none => true | some s => Nat.beq s n
/-- Of a slice that is not nil: a look at its block tells what it is. -/
def aslice2 (E : Env) (T : ATmps) (σ : AS) (t : TypeId) (x : Operand) (lo hi mx : Option Operand) : Option (Value × Nat) :=
  match E.und t, ev E T x, evOpt E T lo, evOpt E T hi, evOpt E T mx with
  | some (.slice e), some (.slice (some a) len cap), some lo, some hi, some mx => match abounds len cap lo hi mx, E.size e, σ.get a.block with
    | some (l, h, m), some n, some (.cells _ _ gr) => cond (Nat.ble h m && grOk gr n) (some (.slice (some (a.add (l * n))) (h - l) (m - l), a.block)) none
    | _, _, _ => none
  | _, _, _, _, _ => none

def aindexAddr (E : Env) (t : TypeId) (x ix : Value) : Option Value :=
  match E.und t, x, ix with
  | some (.array n e), .pointer (some a), .int _ i => match E.size e with
    | some s => cond (decide (0 ≤ i) && decide (i < (n : Int))) (some (.pointer (some (a.add (i.toNat * s))))) none
    | none => none
  | some (.slice e), .slice (some a) n _, .int _ i => match E.size e with
    | some s => cond (decide (0 ≤ i) && decide (i < (n : Int))) (some (.pointer (some (a.add (i.toNat * s))))) none
    | none => none
  | _, _, _ => none
def aindex (E : Env) (t : TypeId) (x ix : Value) : Option Value :=
  match E.und t, x, ix with
  | some (.array n e), .agg cs, .int _ i => match E.size e with
    | some s => cond (decide (0 ≤ i) && decide (i < (n : Int))) (apart E e cs (i.toNat * s)) none
    | none => none
  | some .string, .string s, .int _ i => cond (decide (0 ≤ i)) (s.data[i.toNat]?.map fun b => .int .u8 b.toNat) none
  | _, _, _ => none

def alen (E : Env) (t : TypeId) (x : Value) : Option Value :=
  match E.und t, x with
  | some .string, .string s => some (goInt s.size)
  | some (.slice _), .slice _ n _ => some (goInt n)
  | some (.array n _), _ => some (goInt n)
  | some (.map _ _), .map none => some (goInt 0)
  | _, _ => none

def apure (E : Env) (T : ATmps) (op : Op) : Option Value :=
  match op with
  | .move x | .assign x => ev E T x
  | .pick c a b => match ev E T c with
    | some (.bool true) => ev E T a
    | some (.bool false) => ev E T b
    | _ => none
  | .nilCheck x => match ev E T x with
    | some (.pointer none) | some .nilIface | some .nilFunc | none => none
    | some (.func (.func f) a b) => some (.func (.func f) a b)
    | some (.func _ _ _) => none
    | some v => some v
  | .binOp op t x y _ => match ev E T x, ev E T y with
    | some a, some b => abin E op t x y a b
    | _, _ => none
  | .unOp op _ x => match ev E T x with
    | some (.int k n) => pureVal E.P (Op.unary op (.int k n))
    | some (.bool b) => pureVal E.P (Op.unary op (.bool b))
    | _ => none
  | .convert s d x => match ev E T x with
    | some v => aconv E s d v
    | none => none
  | .makeInterface t x => match E.und t, ev E T x with
    | some (.interface _), _ => none
    | some _, some v => some (.iface t v)
    | _, _ => none
  | .makeFunc fn a b => match evs E T a.toList, evs E T b.toList with
    | some x, some y => some (.func fn x.toArray y.toArray)
    | _, _ => none
  | .build t parts => match evParts E T parts.toList with
    | some l => abuild E t l
    | none => none
  | .fieldAddr s x f => match E.und s, ev E T x with
    | some (.struct fs), some (.pointer (some a)) => match fs[f]? with
      | some f => match E.size f.type with
        | some (_ + 1) => some (.pointer (some (a.add f.offset)))
        | _ => none
      | none => none
    | _, _ => none
  | .field t x f => match E.und t, ev E T x with
    | some (.struct fs), some (.agg cs) => match fs[f]? with
      | some f => apart E f.type cs f.offset
      | none => none
    | _, _ => none
  | .indexAddr t x i => match ev E T x, ev E T i with
    | some a, some b => aindexAddr E t a b
    | _, _ => none
  | .index t x i => match ev E T x, ev E T i with
    | some a, some b => aindex E t a b
    | _, _ => none
  | .slice t x lo hi mx => match ev E T x, evOpt E T lo, evOpt E T hi, evOpt E T mx with
    | some a, some l, some h, some m => aslice E t a l h m
    | _, _, _, _ => none
  | .extract x i => match ev E T x with
    | some (.tuple vs) => vs[i]?
    | _ => none
  | .call c => match c.callee, evs E T c.args.toList with
    | .builtin .len, some [v] => match c.argTypes[0]? with
      | some t => alen E t v
      | none => none
    | .builtin .max, some [.int k a, .int j b] => some (.int k (if b > a then b else a))
    | .builtin .min, some [.int k a, .int j b] => some (.int k (if b < a then b else a))
    | _, _ => none
  | _ => none

/-! ### Operations that make an object -/
def zeroRow (z : Array Value) (n : Nat) : List Value := ((Array.range n).map (z[· % z.size]!)).toList

def aalloc (E : Env) (T : ATmps) (op : Op) : Option (AObj × (Nat → Value)) :=
  match op with
  | .alloc e => match E.zero e with
    | some z => cond (closed z) (some (.cells z.cells.toList false none, fun b => .pointer (some ⟨b, 0, none⟩))) none
    | none => none
  | .box e x => match ev E T x with
    | some v => some (.cells v.cells.toList false none, fun b => .pointer (some ⟨b, 0, none⟩))
    | none => none
  | .buildSlice t len parts => match E.und t, evParts E T parts.toList with
    | some (.slice e), some l => match E.size e, E.zero e with
      | some n, some z => cond (closed z && Nat.ble (len * n) 16777216) (match Instr.fill (fun i => some (i * n, n)) (zeroRow z.cells (len * n)).toArray l with
        | some cs => some (.cells cs.toList false none, fun b => .slice (some ⟨b, 0, none⟩) len len)
        | none => none) none
      | _, _ => none
    | _, _ => none
  | .makeMap t r => match evOpt E T r, E.und t with
    | some none, _ => some (.map [] 0, fun b => .map (some b))
    | some (some (.int _ _)), some (.map _ _) => some (.map [] 0, fun b => .map (some b))
    | _, _ => none
  | .makeSlice t l c => match E.und t, ev E T l, ev E T c with
    | some (.slice e), some (.int _ n), some (.int _ m) => match E.size e, E.zero e, E.bytes e with
      | some s, some z, some by_ => cond (closed z && decide (0 ≤ n) && decide (n ≤ m) && decide (m ≤ 140737488355328) && decide (by_ * m ≤ 140737488355328))
          (some (.cells (zeroRow z.cells (m.toNat * s)) false none, fun b => .slice (some ⟨b, 0, none⟩) n.toNat m.toNat)) none
      | _, _, _ => none
    | _, _, _ => none
  | .range t x => match E.und t, ev E T x with
    | some .string, some (.string s) => some (.iter s 0, fun b => .pointer (some ⟨b, 0, none⟩))
    | _, _ => none
  | .convert s d x => match E.und s, E.und d, ev E T x with
    | some .string, some (.slice e), some (.string s) => match E.und e with
      | some (.int .u8) => some (.cells (s.data.toList.map fun b => .int .u8 b.toNat) false (some 1), fun b => .slice (some ⟨b, 0, none⟩) s.size s.size)
      | _ => none
    | _, _, _ => none
  | _ => none

/-! ### Memory -/
def takeCells : List Value → Nat → Nat → Option (List Value)
  | c, 0, n => if c.length < n then none else some (c.take n)
  | [], _ + 1, _ => none
  | _ :: c, o + 1, n => takeCells c o n
def AS.read (σ : AS) (a : Addr) (n : Nat) : Option (List Value) :=
  match a.spot, σ.get a.block with
  | none, some (.cells c _ _) => takeCells c a.off n
  | _, _ => none
def wrCells : List Value → Nat → List Value → List Value
  | c, _, [] => c
  | [], _, _ => []
  | _ :: c, 0, v :: r => v :: wrCells c 0 r
  | x :: c, o + 1, vs => x :: wrCells c o vs
def AS.write (σ : AS) (a : Addr) (vs : List Value) : Option AS :=
  match a.spot, σ.get a.block with
  | none, some (.cells c false gr) => cond (Nat.ble (a.off + vs.length) c.length && vs.all (·.oneCell')) (some (σ.put a.block (.cells (wrCells c a.off vs) false gr))) none
  | _, _ => none

def aload (E : Env) (σ : AS) (t : TypeId) (a : Addr) : Option Value :=
  match E.isAgg t with
  | some true => match E.size t with
    | some n => (σ.read a n).map fun l => .agg l.toArray
    | none => none
  | some false => match σ.read a 1 with
    | some [v] => some v
    | _ => none
  | none => none
def astore (E : Env) (σ : AS) (t : TypeId) (a : Addr) (v : Value) : Option AS :=
  match E.size t with
  | some n => cond (Nat.beq v.cells.size n) (σ.write a v.cells.toList) none
  | none => none

/-- The first cells of what is appended, copied. -/
def asrc (σ : AS) (size n : Nat) : Value → Option (List Value)
  | .slice (some a) _ _ => σ.read a (n * size)
  | .slice none _ _ => some []
  | .string s => some ((s.data.toList.take n).map fun b => .int .u8 b.toNat)
  | _ => none
def alenOf : Value → Option Nat
  | .slice _ n _ => some n
  | .string s => some s.size
  | _ => none

def maxNeed : Nat := 35184372088832

/-- append(nothing, make(n)): a new row of zeros. -/
def agrow (E : Env) (σ : AS) (e : TypeId) (base : Option Addr) (sl sc : Nat) (x : Value) : Option (Value × AS × Bool) :=
  match E.size e, E.bytes e, E.zero e, base, x with
  | some size, some by_, some z, none, .int _ n =>
    cond (Nat.beq sl 0 && Nat.beq sc 0 && decide (0 ≤ n) && closed z && Nat.ble (n.toNat * by_) maxNeed && Nat.ble n.toNat maxNeed && Nat.beq z.cells.size size && Nat.blt 0 (n.toNat * size))
      (some (.slice (some ⟨σ.next, 0, none⟩) n.toNat n.toNat, σ.alloc (.cells (zeroRow z.cells (n.toNat * size)) false (some size)), false)) none
  | _, _, _, _, _ => none
/-- clear of a slice. -/
def aclear (E : Env) (σ : AS) (argTypes : Array TypeId) (x : Value) : Option (Value × AS × Bool) :=
  match argTypes[0]? with
  | some t => match E.und t, x with
    | some (.slice e), .slice base n _ => match E.zero e, base with
      | some z, none => some (.tuple #[], σ, false)
      | some z, some a => cond (Nat.beq n 0) (some (.tuple #[], σ, false)) (cond (closed z) ((σ.write a (zeroRow z.cells (n * z.cells.size))).map fun σ' => (.tuple #[], σ', true)) none)
      | none, _ => none
    | _, _ => none
  | none => none
def aappend (E : Env) (σ : AS) (argTypes : Array TypeId) (s x : Value) : Option (Value × AS × Bool) :=
  match argTypes[0]?, argTypes[1]? with
  | some st, some xt => match E.und st, E.und xt, s with
    | some (.slice e), some xd, .slice base sl sc =>
      match xd with
      | .int _ => agrow E σ e base sl sc x
      | _ => match E.size e, E.bytes e, E.zero e, alenOf x with
      | some size, some by_, some z, some n => match asrc σ size n x, asrc σ size sl s with
        | some new, some old =>
          cond (Nat.ble (sl + n) sc)
            (match base with
              | some a => match new with
                | [] => some (.slice base (sl + n) sc, σ, false)
                | _ => (σ.write (a.add (sl * size)) new).map fun σ' => (.slice base (sl + n) sc, σ', true)
              | none => cond (Nat.beq (n * size) 0) (some (.slice base (sl + n) sc, σ, false)) none)
            (cond (closed z && Nat.ble ((sl + n) * by_) maxNeed && Nat.ble (sl + n) maxNeed && Nat.beq z.cells.size size && Nat.beq (old ++ new).length ((sl + n) * size) && (old ++ new).all (·.oneCell'))
              (match base with
                | some a => match σ.get a.block with
                  | some (.cells c ro none) => some (.slice (some ⟨σ.next, 0, none⟩) (sl + n) (sl + n), σ.alloc (.cells (old ++ new) false (some size)), false)
                  | some (.cells c false (some g)) => cond (Nat.beq g size) (some (.slice (some ⟨σ.next, 0, none⟩) (sl + n) (sl + n), (σ.alloc (.cells (old ++ new) false (some size))).put a.block .dead, true)) none
                  | _ => none
                | none => some (.slice (some ⟨σ.next, 0, none⟩) (sl + n) (sl + n), σ.alloc (.cells (old ++ new) false (some size)), false)) none)
        | _, _ => none
      | _, _, _, _ => none
    | _, _, _ => none
  | _, _ => none

def acopy (E : Env) (σ : AS) (argTypes : Array TypeId) (d s : Value) : Option (Value × AS × Bool) :=
  match argTypes[0]? with
  | some dt => match E.und dt, d with
    | some (.slice e), .slice base dl _ => match E.size e, alenOf s with
      | some size, some sl => match asrc σ size (Nat.min sl dl) s with
        | some cs => match base with
          | some a => (match cs with
            | [] => some (goInt (Nat.min sl dl : Nat), σ, false)
            | _ => (σ.write a cs).map fun σ' => (goInt (Nat.min sl dl : Nat), σ', true))
          | none => some (goInt (Nat.min sl dl : Nat), σ, false)
        | none => none
      | _, _ => none
    | _, _ => none
  | none => none

/-! ### Maps -/
def keyOk (E : Env) (t : TypeId) (k : Value) : Bool :=
  closed k && (match E.und t, k with
    | some (.int _), .int _ _ => true
    | some .string, .string _ => true
    | none, _ => false
    | _, _ => (pureRun E.P (Instr.checkKey true 10000 t k)).isSome && (pureRun E.P (Instr.checkKey false 10000 t k)).isSome)
def afindAsking (E : Env) (t : TypeId) (k : Value) : List MapEntry → Nat → Option (Option (Nat × Value))
  | [], _ => some none
  | e :: es, i => match pureRun E.P (Op.equal t k e.key) with
    | some true => some (some (i, e.val))
    | some false => afindAsking E t k es (i + 1)
    | none => none
def eqB : List UInt8 → List UInt8 → Bool
  | [], [] => true
  | a :: x, b :: y => cond (Nat.beq a.toNat b.toNat) (eqB x y) false
  | _, _ => false
theorem eqB_iff : ∀ (x y : List UInt8), eqB x y = true ↔ x = y
  | [], [] => by simp [eqB]
  | [], _ :: _ => by simp [eqB]
  | _ :: _, [] => by simp [eqB]
  | a :: x, b :: y => by
    simp only [eqB, cond_eq_ite]
    split
    · rename_i h
      have hab := UInt8.toNat_inj.1 (Nat.eq_of_beq_eq_true h)
      subst hab
      rw [eqB_iff x y]; simp
    · rename_i h
      simp only [Bool.false_eq_true, false_iff, List.cons.injEq, not_and]
      intro hab; subst hab; exact absurd (Nat.beq_refl _) h
theorem eqB_bytes (a b : ByteArray) : (a == b) = eqB a.data.toList b.data.toList := by
  have h : a.data.toList = b.data.toList ↔ a = b := by
    constructor
    · intro h; cases a; cases b; congr; exact Array.toList_inj.1 h
    · rintro rfl; rfl
  have hd : (a == b) = (a.data == b.data) := by cases a; cases b; rfl
  rw [hd]
  cases hb : eqB a.data.toList b.data.toList with
  | true =>
    have := h.1 ((eqB_iff _ _).1 hb)
    subst this
    exact beq_self_eq_true _
  | false =>
    rw [beq_eq_false_iff_ne]
    intro he
    have := (eqB_iff _ _).2 (congrArg Array.toList he)
    rw [hb] at this; cases this
def sameNowF (d : TypeDesc) (k e : Value) : Option Bool :=
  match d, k, e with
  | .string, .string a, .string b => some (eqB a.data.toList b.data.toList)
  | d, k, e => Instr.sameNow d k e
theorem sameNowF_eq (d : TypeDesc) (k e : Value) : sameNowF d k e = Instr.sameNow d k e := by
  unfold sameNowF
  split
  · rename_i a b
    simp only [Instr.sameNow, eqB_bytes]
  · rfl
def findNowF (d : TypeDesc) (k : Value) : List MapEntry → Nat → Option (Option (Nat × Value))
  | [], _ => some none
  | e :: es, i => match sameNowF d k e.key with
    | some true => some (some (i, e.val))
    | some false => findNowF d k es (i + 1)
    | none => none
theorem findNowF_eq (d : TypeDesc) (k : Value) : ∀ (l : List MapEntry) (i : Nat), findNowF d k l i = Instr.findNow d k l i
  | [], _ => rfl
  | e :: es, i => by
    simp only [findNowF, Instr.findNow, sameNowF_eq, findNowF_eq d k es (i + 1)]
    cases Instr.sameNow d k e.key with
    | none => rfl
    | some b => cases b <;> rfl
def afind (E : Env) (t : TypeId) (k : Value) (es : List MapEntry) : Option (Option (Nat × Value)) :=
  match E.und t with
  | none => none
  | some d => match findNowF d k es 0 with
    | some r => some r
    | none => afindAsking E t k es 0
def modEntry (es : List MapEntry) (i : Nat) (f : MapEntry → MapEntry) : List MapEntry := es.modify i f
def alookup (E : Env) (σ : AS) (t : TypeId) (m k : Value) (ok : Bool) : Option Value :=
  match E.und t with
  | some (.map kt et) => cond (keyOk E kt k) (
      let fin (v : Value) (b : Bool) : Value := if ok then .tuple #[v, .bool b] else v
      let miss : Option Value := match E.zero et with | some z => cond (closed z) (some (fin z false)) none | none => none
      match m with
      | .map none => match E.und kt with | some _ => miss | none => none
      | .map (some b) => match σ.get b with
        | some (.map es _) => match afind E kt k es with
          | some (some (_, v)) => some (fin v true)
          | some none => miss
          | none => none
        | _ => none
      | _ => none) none
  | _ => none
def amapUpdate (E : Env) (σ : AS) (t : TypeId) (m k v : Value) : Option AS :=
  match E.und t, m with
  | some (.map kt _), .map (some b) => cond (keyOk E kt k) (match σ.get b with
    | some (.map es cl) => match afind E kt k es with
      | some (some (i, _)) => match es[i]? with
        | some e => cond (Instr.sameBits 10000 e.key k) (some (σ.put b (.map (modEntry es i fun e => { e with key := k, val := v }) cl))) none
        | none => none
      | some none => some (σ.put b (.map (es ++ [{ key := k, val := v, born := cl }]) (cl + 1)))
      | none => none
    | _ => none) none
  | _, _ => none
def adelete (E : Env) (σ : AS) (argTypes : Array TypeId) (m k : Value) : Option AS :=
  match argTypes[0]? with
  | some t => match E.und t with
    | some (.map kt _) => cond (keyOk E kt k) (match m with
      | .map none => some σ
      | .map (some b) => match σ.get b with
        | some (.map es cl) => match afind E kt k es with
          | some (some (i, _)) => some (σ.put b (.map (es.eraseIdx i) cl))
          | some none => some (σ.put b (.map es cl))
          | none => none
        | _ => none
      | _ => none) none
    | _ => none
  | none => none
def amapEntry (E : Env) (σ : AS) (t : TypeId) (m k : Value) : Option (Value × AS) :=
  match E.und t, m with
  | some (.map kt et), .map (some b) => cond (keyOk E kt k) (match σ.get b with
    | some (.map es cl) => match afind E kt k es with
      | some (some (i, v)) => match es[i]? with
        | some e => cond (Instr.sameBits 10000 e.key k) (some (.tuple #[v, goInt e.born], σ.put b (.map (modEntry es i fun e => { e with key := k }) cl))) none
        | none => none
      | some none => match E.zero et with
        | some z => cond (closed z) (some (.tuple #[z, goInt cl], σ.put b (.map (es ++ [{ key := k, val := z, born := cl }]) (cl + 1)))) none
        | none => none
      | none => none
    | _ => none) none
  | _, _ => none
def aentryStore (σ : AS) (m s v : Value) : Option AS :=
  match m, s with
  | .map (some b), .int _ n => match σ.get b with
    | some (.map es cl) => match es.findIdx? (fun e => (e.born : Int) == n) with
      | some i => some (σ.put b (.map (modEntry es i fun e => { e with val := v }) cl))
      | none => none
    | _ => none
  | _, _ => none

/-- Is a slice's capacity just what it seems? -/
def acap (E : Env) (σ : AS) (t : TypeId) (v : Value) : Option Value :=
  match E.und t, v with
  | some (.slice _), .slice none _ c => some (goInt c)
  | some (.slice _), .slice (some a) _ c => match σ.get a.block with
    | some (.cells _ _ none) => some (goInt c)
    | _ => none
  | some (.array n _), _ => some (goInt n)
  | _, _ => none

/-- What a step has touched. look: a map's entry, or its zero; ent: it has made sure of an entry, nothing else. -/
inductive Foot where
  | pure
  | alloc (b : Nat)
  | rd (b : Nat)
  | wr (b : Nat)
  | all (ws : List Nat)
  | look (b : Nat) (t : TypeId) (k : Value)
  | ent (b : Nat) (t : TypeId) (k : Value)
def memB (b : Nat) : List Nat → Bool
  | [] => false
  | x :: r => cond (Nat.beq b x) true (memB b r)
/-- Those below a bound. -/
def olds (n : Nat) : List Nat → List Nat
  | [] => []
  | x :: r => cond (Nat.blt x n) (x :: olds n r) (olds n r)
/-- May it have turned this one, which is an old one? -/
def loudAt (b : Nat) : Foot → Bool
  | .all ws => memB b ws
  | .ent .. => true
  | _ => false
theorem memB_iff {b : Nat} : ∀ {l : List Nat}, memB b l = true ↔ b ∈ l
  | [] => by simp [memB]
  | x :: r => by
    simp only [memB, cond_eq_ite]
    split
    · rename_i h; have := Nat.eq_of_beq_eq_true h; subst this; simp
    · rename_i h
      rw [memB_iff (l := r), List.mem_cons]
      constructor
      · exact .inr
      · rintro (q | q)
        · subst q; exact absurd (Nat.beq_refl _) h
        · exact q
theorem mem_olds {n b : Nat} : ∀ {l : List Nat}, b ∈ olds n l ↔ b ∈ l ∧ b < n
  | [] => by simp [olds]
  | x :: r => by
    simp only [olds, cond_eq_ite]
    split
    · rename_i h
      have h := Nat.blt_eq.mp h
      rw [List.mem_cons, List.mem_cons, mem_olds (l := r)]
      constructor
      · rintro (q | q)
        · exact ⟨.inl q, by omega⟩
        · exact ⟨.inr q.1, q.2⟩
      · rintro ⟨q | q, p⟩
        · exact .inl q
        · exact .inr ⟨q, p⟩
    · rename_i h
      rw [mem_olds (l := r), List.mem_cons]
      constructor
      · rintro ⟨q, p⟩; exact ⟨.inr q, p⟩
      · rintro ⟨q | q, p⟩
        · subst q; exact absurd (Nat.blt_eq.mpr p) h
        · exact ⟨q, p⟩

/-- Surely the same. -/
def veqN : Nat → Value → Value → Bool
  | _, .int k a, .int l b => cond (decide (k = l)) (decide (a = b)) false
  | _, .bool a, .bool b => decide (a = b)
  | _, .string a, .string b => decide (a.data.toList = b.data.toList)
  | n + 1, .agg a, .agg b => go n a.toList b.toList
  | _, _, _ => false
where go (n : Nat) : List Value → List Value → Bool
  | [], [] => true
  | x :: r, y :: s => cond (veqN n x y) (go n r s) false
  | _, _ => false
def veq (v w : Value) : Bool := veqN 3 v w

/-- What a map has for a key: its value, or the zero. -/
def lookAt (E : Env) (t : TypeId) (k : Value) (o : Option AObj) : Option Value :=
  match E.und t with
  | some (.map kt et) => cond (keyOk E kt k) (match o with
    | some (.map es _) => match afind E kt k es with
      | some (some (_, v)) => some v
      | some none => match E.zero et with
        | some z => cond (closed z) (some z) none
        | none => none
      | none => none
    | _ => none) none
  | _ => none
def entSafe (E : Env) (t : TypeId) (k : Value) (o o' : Option AObj) : Bool :=
  match lookAt E t k o, lookAt E t k o' with
  | some v, some w => veq v w
  | _, _ => false

def toBytes : List Value → Option (List UInt8)
  | [] => some []
  | .int .u8 n :: r => match toBytes r with
    | some l => some (UInt8.ofNat n.toNat :: l)
    | none => none
  | _ => none

/-- A walk over a map begins. -/
def arange (E : Env) (σ : AS) (t : TypeId) (v : Value) : Option (Value × AS × Bool) :=
  match E.und t, v with
  | some (.map _ _), .map none => some (.pointer (some ⟨σ.next, 0, none⟩), σ.alloc (.miter none 0 [] 0), false)
  | some (.map _ _), .map (some m) => match σ.get m with
    | some (.map _ cl) => some (.pointer (some ⟨σ.next, 0, none⟩), σ.alloc (.miter (some m) cl [] cl), false)
    | _ => none
  | _, _ => none
def unseen (seen : List Nat) (e : MapEntry) : Bool := !seen.contains e.born
/-- Its next step, where there is one way to go at most. -/
def amnext (σ : AS) (v : Value) : Option (Value × AS × Bool) :=
  match v with
  | .pointer (some ⟨b, 0, none⟩) => match σ.get b with
    | some (.miter none _ _ _) => some (.tuple #[.bool false], σ, false)
    | some (.miter (some m) since seen last) => match σ.get m with
      | some (.map es cl) => cond (!seen.isEmpty && !es.isEmpty && es.all (fun e => decide (e.born ≥ last))) none
          (match es.filter (unseen seen) with
            | [] => some (.tuple #[.bool false], σ, false)
            | [e] => cond (decide (e.born < since)) (some (.tuple #[.bool true, e.key, e.val], σ.put b (.miter (some m) since (seen ++ [e.born]) cl), true)) none
            | _ => none)
      | _ => none
    | _ => none
  | _ => none
def bornAt (stamp : Nat) (e : MapEntry) : Bool := e.born == stamp
/-- What it stands at. -/
def amentry (σ : AS) (v : Value) : Option (Value × AS × Bool) :=
  match v with
  | .pointer (some ⟨b, 0, none⟩) => match σ.get b with
    | some (.miter (some m) _ seen last) => match seen.getLast?, σ.get m with
      | some stamp, some (.map es cl) => cond (Nat.beq cl last) (match es.find? (bornAt stamp) with
          | some e => some (.tuple #[e.key, e.val], σ, false)
          | none => none) none
      | _, _ => none
    | _ => none
  | _ => none
/-- Other operations that look at memory. -/
def amem (E : Env) (T : ATmps) (op : Op) (σ : AS) : Option (Value × AS × Bool) :=
  match op with
  | .lookup t x i ok => match ev E T x, ev E T i with
    | some m, some k => (alookup E σ t m k ok).map fun v => (v, σ, false)
    | _, _ => none
  | .mapUpdate t m k v | .insert t m k v => match ev E T m, ev E T k, ev E T v with
    | some m, some k, some v => (amapUpdate E σ t m k v).map fun σ' => (undef, σ', true)
    | _, _, _ => none
  | .mapEntry t m k => match ev E T m, ev E T k with
    | some m, some k => (amapEntry E σ t m k).map fun r => (r.1, r.2, true)
    | _, _ => none
  | .entryStore _ m s v => match ev E T m, ev E T s, ev E T v with
    | some m, some s, some v => (aentryStore σ m s v).map fun σ' => (undef, σ', true)
    | _, _, _ => none
  | .next it true => match ev E T it with
    | some (.pointer (some ⟨b, 0, none⟩)) => match σ.get b with
      | some (.iter s p) => cond (Nat.blt p s.size)
          (let r := Utf8.decode s p
           some (.tuple #[.bool true, goInt p, .int .i32 r.1], σ.put b (.iter s (p + r.2)), true))
          (some (.tuple #[.bool false], σ, false))
      | _ => none
    | _ => none
  | .range t x => match ev E T x with
    | some v => arange E σ t v
    | none => none
  | .next it false => match ev E T it with
    | some v => amnext σ v
    | none => none
  | .entry it => match ev E T it with
    | some v => amentry σ v
    | none => none
  | .convert s d x => match E.und s, E.und d, ev E T x with
    | some (.slice e), some .string, some (.slice a n _) => match E.und e with
      | some (.int .u8) => match a with
        | none => some (.string .empty, σ, false)
        | some a => match σ.read a n with
          | some l => match toBytes l with
            | some bs => some (.string ⟨bs.toArray⟩, σ, false)
            | none => none
          | none => none
      | _ => none
    | some (.slice e), some (.slice _), some (.slice (some a) n c) => match E.und e, σ.get a.block with
      | some (.int .u8), some (.cells _ false _) => cond (Nat.beq s d && Nat.blt 0 n) (some (.slice (some a) n c, σ, false)) none
      | _, _ => none
    | _, _, _ => none
  | .call c => match c.callee, evs E T c.args.toList with
    | .builtin .append, some [s, x] => aappend E σ c.argTypes s x
    | .builtin .copy, some [d, s] => acopy E σ c.argTypes d s
    | .builtin .delete, some [m, k] => (adelete E σ c.argTypes m k).map fun σ' => (.tuple #[], σ', true)
    | .builtin .clear, some [v] => aclear E σ c.argTypes v
    | .builtin .cap, some [v] => match c.argTypes[0]? with
      | some t => (acap E σ t v).map fun r => (r, σ, false)
      | none => none
    | .builtin .len, some [.map (some b)] => match c.argTypes[0]? with
      | some t => match E.und t, σ.get b with
        | some (.map _ _), some (.map es _) => some (goInt es.length, σ, false)
        | _, _ => none
      | none => none
    | _, _ => none
  | _ => none

/-- What a call enters. -/
def acallee (E : Env) (T : ATmps) (op : Op) : Option (Nat × List Value) :=
  match op with
  | .call c => match c.callee with
    | .value f => match ev E T f, evs E T c.args.toList with
      | some (.func (.func n) a b), some l => some (n, a.toList ++ l ++ b.toList)
      | _, _ => none
    | _ => none
  | _ => none

def amemFoot (E : Env) (T : ATmps) (op : Op) (σ σ' : AS) (l : List Nat) : Foot :=
  match op with
  | .lookup t x i false => match ev E T x, ev E T i with
    | some (.map (some b)), some k => cond (lookAt E t k (σ.get b)).isSome (.look b t k) (.all l)
    | _, _ => .all l
  | .mapEntry t m k => match ev E T m, ev E T k with
    | some (.map (some b)), some k => cond (entSafe E t k (σ.get b) (σ'.get b)) (.ent b t k) (.all l)
    | _, _ => .all l
  | _ => .all l

abbrev ACall := Nat → List Value → AS → Option (Value × AS)

/-- One operation. -/
def aoper (E : Env) (call : ACall) (T : ATmps) (o : Oper) (σ : AS) : Option (Value × AS × Foot) :=
  match acallee E T o.op with
  | some (n, args) =>
    match call n args { σ with ws := [] } with
    | some (v, σ') => some (v, { σ' with ws := σ'.ws ++ σ.ws }, .all (olds σ.next σ'.ws))
    | none => none
  | none =>
    match apure E T o.op with
    | some v => some (v, σ, .pure)
    | none => match aalloc E T o.op with
      | some (obj, mk) => some (mk σ.next, σ.alloc obj, .alloc σ.next)
      | none => match o.op with
        | .load t a => match ev E T a with
          | some (.pointer (some a)) => (aload E σ t a).map fun v => (v, σ, .rd a.block)
          | _ => none
        | .store t a x => match ev E T a, ev E T x with
          | some (.pointer (some a)), some v => (astore E σ t a v).map fun σ' => (undef, σ', .wr a.block)
          | _, _ => none
        | .slice t x lo hi mx => (aslice2 E T σ t x lo hi mx).map fun r => (r.1, σ, .rd r.2)
        | _ => (amem E T o.op { σ with ws := [] }).map fun r => (r.1, { r.2.1 with ws := r.2.1.ws ++ σ.ws }, amemFoot E T o.op σ r.2.1 (olds σ.next r.2.1.ws))

def awanted (ops : Array Oper) (T : ATmps) (o : Oper) : Option Bool :=
  match o.guard with
  | none => some true
  | some (j, want) => match (ops[j]?).bind (·.dst) with
    | some t => match T.get t with
      | .bool b => some (b == want)
      | _ => some false
    | none => some false

/-- Operations in the order of the text. -/
def aops (E : Env) (call : ACall) (ops : Array Oper) : List Oper → ATmps → AS → Option (ATmps × AS × List Foot)
  | [], T, σ => some (T, σ, [])
  | o :: r, T, σ =>
    match awanted ops T o with
    | some true => match aoper E call T o σ with
      | some (v, σ', f) => match T.put o.dst v with
        | some T' => match aops E call ops r T' σ' with
          | some (T2, σ2, fs) => some (T2, σ2, f :: fs)
          | none => none
        | none => none
      | none => none
    | some false => match T.put o.dst undef with
      | some T' => match aops E call ops r T' σ with
        | some (T2, σ2, fs) => some (T2, σ2, .pure :: fs)
        | none => none
      | none => none
    | none => none

/-! ### Regions that draw -/
def footClash : Foot → Foot → Bool
  | .pure, _ | _, .pure => false
  | .alloc a, .all l | .all l, .alloc a => memB a l
  | .alloc a, .wr b | .wr b, .alloc a => Nat.beq a b
  | .alloc _, .alloc _ | .alloc _, .rd _ | .rd _, .alloc _ => false
  | .rd _, .rd _ => false
  | .rd a, .wr b | .wr a, .rd b | .wr a, .wr b => Nat.beq a b
  | .all l, .rd a | .rd a, .all l => memB a l
  | .all _, .wr _ | .wr _, .all _ => true
  | .all l, .all m => !l.isEmpty || !m.isEmpty
  | .look _ _ _, .look _ _ _ | .look _ _ _, .rd _ | .rd _, .look _ _ _ | .look _ _ _, .alloc _ | .alloc _, .look _ _ _ => false
  | .look a _ _, .wr b | .wr b, .look a _ _ => Nat.beq a b
  | .look a _ _, .all l | .all l, .look a _ _ => memB a l
  | .look a t k, .ent b u l => !(Nat.beq a b && Nat.beq t u && veq k l)
  | .ent _ _ _, _ | _, .ent _ _ _ => true
/-- May an operation look at memory, write it? (By its kind alone.) -/
def mayTouch : Op → Bool × Bool
  | .load .. | .lookup .. | .slice .. | .entry .. => (true, false)
  | .store .. | .mapUpdate .. | .insert .. | .mapEntry .. | .entryStore .. | .next .. => (true, true)
  | .convert .. | .alloc .. | .box .. | .buildSlice .. | .makeMap .. | .makeSlice .. | .range .. => (true, false)
  | .call c => match c.callee with
    | .builtin .len | .builtin .cap => (true, false)
    | .builtin .max | .builtin .min => (false, false)
    | _ => (true, true)
  | _ => (false, false)
/-- For each operation the set of those that it waits for, as bits. -/
def maskOf (acc : List Nat) (o : Oper) : Nat := o.after.toList.foldl (fun s e => cond (Region.binds .any e) (s ||| 2 ^ e.on ||| acc.getD e.on 0) s) 0
def masks : List Oper → List Nat → List Nat
  | [], acc => acc
  | o :: r, acc => masks r (acc ++ [maskOf acc o])
/-- Pairs that no edge orders, by which one might disturb the other. -/
def pairAt (ms : List Nat) (ops : List Oper) (i j : Nat) : Bool :=
  match ops[i]?, ops[j]? with
  | some oi, some oj => !((ms.getD j 0).testBit i) && (((mayTouch oi.op).2 && (mayTouch oj.op).1) || ((mayTouch oi.op).1 && (mayTouch oj.op).2))
  | _, _ => false
def pairsOf (ops : Array Oper) : List (Nat × Nat) :=
  let l := ops.toList
  let ms := masks l []
  (List.range l.length).flatMap fun j => ((List.range j).filter fun i => pairAt ms l i j).map fun i => (i, j)
def noClash (fs : List Foot) (ps : List (Nat × Nat)) : Bool :=
  ps.all fun p => match fs[p.1]?, fs[p.2]? with
    | some f, some g => !footClash f g
    | _, _ => false

/-- The temporaries that an operation looks at. -/
def looks (ops : List Oper) (o : Oper) : List Nat :=
  (o.op.operands.toList.filterMap fun | .tmp t => some t | _ => none) ++ (match o.guard with
    | some (j, _) => match (ops[j]?).bind (·.dst) with
      | some t => [t]
      | none => []
    | none => [])
def writesTmp (o : Oper) (t : Nat) : Bool := match o.dst with | some d => Nat.beq d t | none => false
/-- May these two come up in either order, as to temporaries? -/
def tmpApart (ops : List Oper) (x y : Oper) : Bool :=
  (match x.dst with
    | some d => !((looks ops y).any fun t => Nat.beq d t) && !(writesTmp y d)
    | none => true) && (match y.dst with
    | some d => !((looks ops x).any fun t => Nat.beq d t)
    | none => true)
def regionWf (ops : Array Oper) : Bool :=
  let l := ops.toList
  let ms := masks l []
  (List.range l.length).all fun j => match l[j]? with
    | none => false
    | some oj => (oj.after.toList.all fun e => !(Region.binds .any e) || Nat.blt e.on j) &&
      (List.range j).all fun i => match l[i]? with
        | none => false
        | some oi => (ms.getD j 0).testBit i || tmpApart l oi oj
def codeWf : Code → Bool
  | .region _ ops true => regionWf ops
  | .seq a b | .cond _ a b => codeWf a && codeWf b
  | .block _ b | .loop b | .scope b => codeWf b
  | _ => true

/-! ### Code -/
inductive AExit where
  | normal
  | exit (id : Nat)
  | ret

def aloop (run : ATmps → AS → Option (AExit × ATmps × AS)) : Nat → ATmps → AS → Option (AExit × ATmps × AS)
  | 0, _, _ => none
  | k + 1, T, σ => match run T σ with
    | some (.normal, T', σ') => aloop run k T' σ'
    | some (e, T', σ') => some (e, T', σ')
    | none => none

def acode (E : Env) (call : ACall) (k : Nat) : Code → ATmps → AS → Option (AExit × ATmps × AS)
  | .skip, T, σ => some (.normal, T, σ)
  | .label _, T, σ => some (.normal, T, σ)
  | .region _ ops false, T, σ => match aops E call ops ops.toList T σ with
    | some (T', σ', _) => some (.normal, T', σ')
    | none => none
  | .region _ ops true, T, σ => match aops E call ops ops.toList T σ with
    | some (T', σ', fs) => cond (noClash fs (pairsOf ops)) (some (.normal, T', σ')) none
    | none => none
  | .seq a b, T, σ => match acode E call k a T σ with
    | some (.normal, T', σ') => acode E call k b T' σ'
    | r => r
  | .cond c a b, T, σ => match ev E T c with
    | some (.bool true) => acode E call k a T σ
    | some (.bool false) => acode E call k b T σ
    | _ => none
  | .block id b, T, σ => match acode E call k b T σ with
    | some (.exit id', T', σ') => cond (Nat.beq id' id) (some (.normal, T', σ')) (some (.exit id', T', σ'))
    | r => r
  | .loop b, T, σ => aloop (acode E call k b) k T σ
  | .scope b, T, σ => acode E call k b T σ
  | .exit id, T, σ => some (.exit id, T, σ)
  | .ret, T, σ => some (.ret, T, σ)
  | _, _, _ => none

def ares (E : Env) (T : ATmps) (σ : AS) : List ResultVar → Option (List Value)
  | [] => some []
  | .tmp t :: r => match ares E T σ r with
    | some l => some (T.get t :: l)
    | none => none
  | .cell a t :: r => match T.get a with
    | .pointer (some a) => match aload E σ t a with
      | some v => match ares E T σ r with
        | some l => some (v :: l)
        | none => none
      | none => none
    | _ => none
def resValue : List Value → Value
  | [v] => v
  | l => .tuple l.toArray

def startTr : List Value → Nat → Tr Value → Tr Value
  | [], _, t => t
  | v :: r, i, t => startTr r (i + 1) (t.set i v)
def afunc (E : Env) (call : ACall) (k : Nat) (fn : Func) (args : List Value) (σ : AS) : Option (Value × AS) :=
  match fn.body with
  | none => none
  | some c => match acode E call k c { tr := startTr args 0 .e, size := args.length + (fn.ntmps - args.length) } σ with
    | some (.normal, T, σ') | some (.ret, T, σ') => (ares E T σ' fn.results.toList).map fun l => (resValue l, σ')
    | _ => none
def acall (E : Env) : Nat → ACall
  | 0 => fun _ _ _ => none
  | k + 1 => fun n args σ => match E.prim n with
    | some g => g args σ
    | none => match E.fn n with
      | some fn => afunc E (acall E k) (k + 1) fn args σ
      | none => none

/-- Straight off the program's own tables. -/
def Env.of (P : Program) (glob : Nat → Option Nat) (prim : Nat → Option (List Value → AS → Option (Value × AS))) : Env :=
  { P, und := P.underlying, size := fun t => (P.info? t).map (·.size), bytes := fun t => (P.info? t).map (·.bytes), zero := fun t => (P.info? t).bind (·.zero),
    fn := fun n => P.funcs[n]?, glob, prim }
end
end Go.VAbs

/-! The abstract machine, part 4: memory: what the abstract heap does, the model's heap does. -/
namespace Go.VAbs
open Go
set_option linter.unusedVariables false
noncomputable section
set_option linter.unusedSimpArgs false

theorem ORel.mono {μ μ' : Mu} (h : μ.le μ') {o : AObj} {l : Loc} {x : Option Obj} (k : ORel μ o l x) : ORel μ' o l x := by
  cases o with
  | cells c ro gr =>
    obtain ⟨arr, t, fr, h1, h2, h3, h4⟩ := k
    exact ⟨arr, t, fr, h1, h2, fun i v v' a b => (h3 i v v' a b).mono h, h4⟩
  | map es cl =>
    obtain ⟨h0, es', h1, h2, h3⟩ := k
    exact ⟨h0, es', h1, h2, fun i e e' a b => let ⟨x1, x2, x3, x4⟩ := h3 i e e' a b; ⟨x1, x2, x3, x4.mono h⟩⟩
  | iter s p => exact k
  | miter m since seen last =>
    obtain ⟨h0, m', h1, h2⟩ := k
    refine ⟨h0, m', h1, ?_⟩
    cases m with
    | none => exact h2
    | some b => obtain ⟨l', h3, h4⟩ := h2; exact ⟨l', h _ _ h3, h4⟩
  | dead => trivial

def updMu (μ : Mu) (n : Nat) (l : Loc) : Mu := fun b => if b = n then some l else μ b
theorem updMu_le {μ : Mu} {n : Nat} {l : Loc} (h : μ n = none) : μ.le (updMu μ n l) := by
  intro b l' hb
  unfold updMu
  rw [if_neg (fun e => by rw [e, h] at hb; cases hb)]
  exact hb

/-- A new object on either side. -/
theorem Sim.alloc {μ : Mu} {g : AH} {w : World} (h : Rel μ g w) {n : Nat} (hn : μ n = none) {o : AObj} {O : Obj} {l : Loc} (hl : l.blk = w.heap.size)
    (ho : ORel μ o l (some O)) : Sim μ g w n (n + 1) (upd g n o) (w.alloc O) (fun μ' => μ' = updMu μ n l) := by
  have le := updMu_le (l := l) hn
  have hg : ∀ b l', μ b = some l' → upd g n o b = g b := by
    intro b l' hb
    unfold upd
    rw [if_neg (fun e => by rw [e, hn] at hb; cases hb)]
  refine ⟨updMu μ n l, ⟨rfl, rfl, rfl, by simp, ?_, le, ?_, ?_, fun b l' hb ⟨o', h1, h2⟩ => ⟨o', by rw [← hg b l' hb]; exact h1, h2⟩⟩, ⟨?_, ?_, ?_⟩, ?_, rfl⟩
  · intro c hc _
    show (w.heap.push O)[c]? = _
    rw [Array.getElem?_push, if_neg (by omega)]
  · intro b l' h1 h2
    unfold updMu at h2
    by_cases e : b = n
    · rw [if_pos e] at h2; cases h2; exact .inl (by omega)
    · rw [if_neg e, h1] at h2; cases h2
  · intro b l' hb ⟨o', h1, h2⟩
    exact ⟨o', by rw [← hg b l' hb]; exact h1, h2⟩
  · intro b l' hb
    unfold updMu at hb
    by_cases e : b = n
    · rw [if_pos e] at hb; cases hb; simp; omega
    · rw [if_neg e] at hb; have := h.size b l' hb; simp; omega
  · intro b l' o' hb ho'
    unfold updMu at hb
    by_cases e : b = n
    · rw [if_pos e] at hb; cases hb
      unfold upd at ho'; rw [if_pos e] at ho'; cases ho'
      have : (w.alloc O).heap[l.blk]? = some O := by
        show (w.heap.push O)[l.blk]? = _
        rw [hl]; simp
      rw [this]; exact ho.mono le
    · rw [if_neg e] at hb
      unfold upd at ho'; rw [if_neg e] at ho'
      have hs := h.size b l' hb
      have : (w.alloc O).heap[l'.blk]? = w.heap[l'.blk]? := by
        show (w.heap.push O)[l'.blk]? = _
        rw [Array.getElem?_push, if_neg (by omega)]
      rw [this]; exact (h.obj b l' o' hb ho').mono le
  · intro b b' l1 l2 h1 h2 hne hb hown hal
    unfold updMu at h1 h2
    by_cases e : b = n
    · rw [if_pos e] at h1; cases h1
      rw [if_neg (fun e' => hne (e.trans e'.symm))] at h2
      have := h.size b' l2 h2
      omega
    · rw [if_neg e] at h1
      by_cases e' : b' = n
      · rw [if_pos e'] at h2; cases h2
        have := h.size b l1 h1
        omega
      · rw [if_neg e'] at h2
        obtain ⟨o1, a1, a2⟩ := hown
        obtain ⟨o2, b1, b2⟩ := hal
        unfold upd at a1 b1
        rw [if_neg e] at a1; rw [if_neg e'] at b1
        exact h.inj b b' l1 l2 h1 h2 hne hb ⟨o1, a1, a2⟩ ⟨o2, b1, b2⟩
  · intro b h1 h2
    unfold updMu at h2
    by_cases e : b = n
    · omega
    · rw [if_neg e, h1] at h2; exact absurd rfl h2

/-- An object that is owned is put in its own place anew. -/
theorem Sim.put {μ : Mu} {g : AH} {w : World} (h : Rel μ g w) {b : Nat} {l : Loc} (hb : μ b = some l) (hown : Own g b) {o : AObj} {w' : World} (lo hi : Nat)
    (h1 : w'.os = w.os) (h2 : w'.tape = w.tape) (h3 : w'.output = w.output) (hs : w'.heap.size = w.heap.size) (hk : ∀ c, c ≠ l.blk → w'.heap[c]? = w.heap[c]?)
    (ho : ORel μ o l w'.heap[l.blk]?) : Sim μ g w lo hi (upd g b o) w' (fun μ' => μ' = μ) := by
  refine ⟨μ, ⟨h1, h2, h3, by omega, ?_, .refl μ, ?_, ?_, ?_⟩, ⟨?_, ?_, ?_⟩, fun b h k => absurd h k, rfl⟩
  · intro c _ hno
    refine hk c (fun e => ?_)
    exact hno b l hb e.symm hown
  · intro b' l' k1 k2; rw [k1] at k2; cases k2
  · intro b' l' _ ho'
    by_cases e : b' = b
    · exact e ▸ hown
    · obtain ⟨o', k1, k2⟩ := ho'
      unfold upd at k1; rw [if_neg e] at k1
      exact ⟨o', k1, k2⟩
  · intro b' l' _ ho'
    by_cases e : b' = b
    · exact e ▸ hown.alive
    · obtain ⟨o', k1, k2⟩ := ho'
      unfold upd at k1; rw [if_neg e] at k1
      exact ⟨o', k1, k2⟩
  · intro b' l' hb'; rw [hs]; exact h.size b' l' hb'
  · intro b' l' o' hb' ho'
    unfold upd at ho'
    by_cases e : b' = b
    · rw [if_pos e] at ho'; cases ho'
      subst e
      rw [hb] at hb'; cases hb'
      exact ho
    · rw [if_neg e] at ho'
      by_cases eb : l'.blk = l.blk
      · -- then b' is dead
        have hal : ¬ Alive g b' := h.inj b b' l l' hb hb' (fun x => e x.symm) eb.symm hown
        have : o' = .dead := by
          cases o' <;> first | rfl | exact absurd ⟨_, ho', rfl⟩ hal
        rw [this]; trivial
      · rw [hk _ eb]; exact h.obj b' l' o' hb' ho'
  · intro b1 b2 l1 l2 k1 k2 hne heq hown' hal'
    have own1 : Own g b1 := by
      by_cases e : b1 = b
      · exact e ▸ hown
      · obtain ⟨o', x1, x2⟩ := hown'
        unfold upd at x1; rw [if_neg e] at x1
        exact ⟨o', x1, x2⟩
    have al2 : Alive g b2 := by
      by_cases e : b2 = b
      · exact e ▸ hown.alive
      · obtain ⟨o', x1, x2⟩ := hal'
        unfold upd at x1; rw [if_neg e] at x1
        exact ⟨o', x1, x2⟩
    exact h.inj b1 b2 l1 l2 k1 k2 hne heq own1 al2

theorem takeCells_some : ∀ {c : List Value} {o n : Nat} {l : List Value}, takeCells c o n = some l → o + n ≤ c.length ∧ l.length = n ∧ ∀ j, j < n → l[j]? = c[o + j]?
  | c, 0, n, l, h => by
    unfold takeCells at h
    split at h
    · cases h
    · rename_i hc
      cases h
      refine ⟨by omega, by simp; omega, ?_⟩
      intro j hj
      rw [List.getElem?_take, if_pos hj, Nat.zero_add]
  | [], _ + 1, _, _, h => by simp [takeCells] at h
  | x :: c, o + 1, n, l, h => by
    simp only [takeCells] at h
    obtain ⟨h1, h2, h3⟩ := takeCells_some h
    refine ⟨by simp; omega, h2, ?_⟩
    intro j hj
    rw [h3 j hj, show o + 1 + j = (o + j) + 1 from by omega, List.getElem?_cons_succ]

theorem AS.read_some {σ : AS} {a : Addr} {n : Nat} {l : List Value} (h : σ.read a n = some l) :
    a.spot = none ∧ ∃ c ro gr, σ.get a.block = some (.cells c ro gr) ∧ takeCells c a.off n = some l := by
  unfold AS.read at h
  split at h
  · rename_i c ro gr e1 e2
    exact ⟨e1, c, ro, gr, e2, h⟩
  · cases h

/-- A cell that is there. -/
theorem Rel.cell {μ : Mu} {g : AH} {w : World} (h : Rel μ g w) {b o : Nat} {l : Loc} (hb : μ b = some l) {c : List Value} {ro : Bool} {gr : Option Nat}
    (hg : g b = some (.cells c ro gr)) {v : Value} (hv : c[o]? = some v) : ∃ v', w.cell? ⟨l.blk, l.sh + o, none⟩ = some v' ∧ VRel μ v v' := by
  obtain ⟨arr, t, fr, h1, h2, h3, _⟩ := h.obj b l _ hb hg
  have ho : o < c.length := (List.getElem?_eq_some_iff.1 hv).1
  have : l.sh + o < arr.size := by omega
  refine ⟨arr[l.sh + o], ?_, h3 o v _ hv (Array.getElem?_eq_getElem this)⟩
  simp [World.cell?, h1, Array.getElem?_eq_getElem this]
theorem Rel.notFrozen {μ : Mu} {g : AH} {w : World} (h : Rel μ g w) {b o : Nat} {l : Loc} (hb : μ b = some l) {c : List Value} {gr : Option Nat}
    (hg : g b = some (.cells c false gr)) (ho : o < c.length) : w.frozen? ⟨l.blk, l.sh + o, none⟩ = false := by
  obtain ⟨arr, t, fr, h1, h2, h3, _, _, h5⟩ := h.obj b l _ hb hg
  have := h5 rfl
  simp only [World.frozen?, h1]
  rcases this with h6 | h6
  · by_cases h7 : fr.1 ≤ l.sh + o
    · have : ¬ l.sh + o < fr.2 := by omega
      simp [this]
    · simp [h7]
  · have : ¬ fr.1 ≤ l.sh + o := by omega
    simp [this]

theorem Addr.add_none (b o n : Nat) : (Addr.mk b o none).add n = ⟨b, o + n, none⟩ := by
  unfold Addr.add
  split
  · rename_i e; rw [e]; rfl
  · rfl

/-- Reading a row of cells. -/
theorem loadCellsFrom_run (P : Program) (w : World) (b o : Nat) : ∀ (l : List Value) (i : Nat) (acc : Array Value), (∀ j v, l[j]? = some v → w.cell? ⟨b, o + i + j, none⟩ = some v) →
    (loadCellsFrom ⟨b, o, none⟩ i l.length acc).run P w = .ok (acc ++ l.toArray) w
  | [], i, acc, _ => by simp [loadCellsFrom]
  | v :: l, i, acc, h => by
    have h0 := h 0 v rfl
    simp only [Nat.add_zero] at h0
    simp only [List.length_cons, loadCellsFrom, Sem.run_bind, run_load, Addr.add_none, h0, Result.andThen_ok]
    rw [loadCellsFrom_run P w b o l (i + 1) (acc.push v) (fun j u hj => by
      have := h (j + 1) u (by simpa using hj)
      rw [← this]; congr 2; omega)]
    congr 1
    apply Array.toList_inj.1
    simp

theorem loadCells_sim {μ : Mu} {g : AH} {w : World} (h : Rel μ g w) (P : Program) {b o n : Nat} {l : Loc} (hb : μ b = some l) {c : List Value} {ro : Bool} {gr : Option Nat}
    (hg : g b = some (.cells c ro gr)) {r : List Value} (hr : takeCells c o n = some r) :
    ∃ r' : List Value, (loadCells ⟨l.blk, l.sh + o, none⟩ n).run P w = .ok r'.toArray w ∧ VRels μ r.toArray r'.toArray := by
  obtain ⟨h1, h2, h3⟩ := takeCells_some hr
  have each : ∀ j, j < n → ∃ v', w.cell? ⟨l.blk, l.sh + o + j, none⟩ = some v' ∧ ∀ v, r[j]? = some v → VRel μ v v' := by
    intro j hj
    have hv : c[o + j]? = some c[o + j] := List.getElem?_eq_getElem (by omega)
    obtain ⟨v', k1, k2⟩ := h.cell hb hg hv
    refine ⟨v', by rw [← k1]; congr 2; omega, ?_⟩
    intro v hv'
    rw [h3 j hj, hv] at hv'
    cases hv'; exact k2
  have : ∃ r' : List Value, r'.length = n ∧ ∀ j v, r'[j]? = some v → w.cell? ⟨l.blk, l.sh + o + j, none⟩ = some v := by
    refine ⟨(List.range n).map fun j => (w.cell? ⟨l.blk, l.sh + o + j, none⟩).getD undef, by simp, ?_⟩
    intro j v hj
    simp only [List.getElem?_map, List.getElem?_range] at hj
    have hj' : j < n := by
      rcases Nat.lt_or_ge j n with h' | h'
      · exact h'
      · simp [List.getElem?_eq_none (show (List.range n).length ≤ j by simpa using h')] at hj
    obtain ⟨v', k1, _⟩ := each j hj'
    rw [List.getElem?_eq_getElem (by simpa using hj')] at hj
    simp [k1] at hj
    rw [k1, hj]
  obtain ⟨r', q1, q2⟩ := this
  refine ⟨r', ?_, ?_, ?_⟩
  · unfold loadCells
    have := loadCellsFrom_run P w l.blk (l.sh + o) r' 0 #[] (fun j v hj => by have := q2 j v hj; simpa using this)
    rw [q1] at this
    rw [this]; simp
  · simp [q1, h2]
  · intro i v v' k1 k2
    simp only [List.getElem?_toArray] at k1 k2
    have hi : i < n := by have := (List.getElem?_eq_some_iff.1 k1).1; omega
    obtain ⟨u, e1, e2⟩ := each i hi
    have := q2 i v' k2
    rw [e1] at this; cases this
    exact e2 v k1

theorem wrCells_length : ∀ (c : List Value) (o : Nat) (vs : List Value), (wrCells c o vs).length = c.length
  | c, _, [] => by simp [wrCells]
  | [], _, _ :: _ => by simp [wrCells]
  | x :: c, 0, v :: r => by simp [wrCells, wrCells_length c 0 r]
  | x :: c, o + 1, v :: r => by simp [wrCells, wrCells_length c o (v :: r)]
theorem wrCells_get : ∀ (c : List Value) (o : Nat) (vs : List Value) (i : Nat), (wrCells c o vs)[i]? = if o ≤ i ∧ i < o + vs.length ∧ i < c.length then vs[i - o]? else c[i]?
  | c, o, [], i => by
    rw [if_neg (by simp; omega)]; simp [wrCells]
  | [], o, _ :: _, i => by simp [wrCells]
  | x :: c, 0, v :: r, i => by
    cases i with
    | zero => simp [wrCells]
    | succ i =>
      simp only [wrCells, List.getElem?_cons_succ, Nat.sub_zero]
      rw [wrCells_get c 0 r i]
      simp only [List.length_cons, Nat.zero_le, true_and, Nat.sub_zero, List.getElem?_cons_succ]
      by_cases h : i < 0 + r.length ∧ i < c.length
      · rw [if_pos h, if_pos (by omega)]
      · rw [if_neg h, if_neg (by omega)]
  | x :: c, o + 1, v :: r, i => by
    cases i with
    | zero => rw [if_neg (by omega)]; simp [wrCells]
    | succ i =>
      simp only [wrCells, List.getElem?_cons_succ]
      rw [wrCells_get c o (v :: r) i]
      simp only [List.length_cons]
      by_cases h : o ≤ i ∧ i < o + (r.length + 1) ∧ i < c.length
      · rw [if_pos h, if_pos (by omega), show i + 1 - (o + 1) = i - o from by omega]
      · rw [if_neg h, if_neg (by omega)]
theorem wrCells_cons (c : List Value) (o : Nat) (v : Value) (r : List Value) (ho : o < c.length) : wrCells c o (v :: r) = wrCells (c.set o v) (o + 1) r := by
  apply List.ext_getElem?
  intro i
  rw [wrCells_get, wrCells_get]
  simp only [List.length_cons, List.length_set, List.getElem?_set]
  by_cases h1 : i = o
  · subst h1
    rw [if_pos (by omega), if_neg (by omega)]
    simp [ho]
  · by_cases h2 : o + 1 ≤ i ∧ i < o + 1 + r.length ∧ i < c.length
    · rw [if_pos (by omega), if_pos h2, show i - o = (i - (o + 1)) + 1 from by omega, List.getElem?_cons_succ]
    · rw [if_neg (by omega), if_neg h2, if_neg (fun e => h1 e.symm)]

theorem VRel.oneCell {μ : Mu} {v v' : Value} (k : VRel μ v v') : v'.oneCell' = v.oneCell' := by cases k <;> rfl

/-- One cell written. -/
theorem Sim.set1 {μ : Mu} {g : AH} {w : World} (h : Rel μ g w) {b o : Nat} {l : Loc} (hb : μ b = some l) {c : List Value} {gr : Option Nat}
    (hg : g b = some (.cells c false gr)) (ho : o < c.length) {v v' : Value} (hv : VRel μ v v') (lo hi : Nat) :
    Sim μ g w lo hi (upd g b (.cells (c.set o v) false gr)) (w.setCell ⟨l.blk, l.sh + o, none⟩ v') (fun μ' => μ' = μ) := by
  obtain ⟨arr, t, fr, h1, h2, h3, h4, h5, h6⟩ := h.obj b l _ hb hg
  refine Sim.put h hb ⟨_, hg, rfl⟩ lo hi rfl rfl rfl (by simp) ?_ ?_
  · intro x hx
    simp only [World.setCell, Array.getElem?_modify]
    rw [if_neg (fun e => hx e.symm)]
  · have : (w.setCell ⟨l.blk, l.sh + o, none⟩ v').heap[l.blk]? = some (.cells (arr.setIfInBounds (l.sh + o) v') t fr) := by
      simp only [World.setCell, Array.getElem?_modify, if_true, h1, Option.map_some]
      rfl
    refine ⟨arr.setIfInBounds (l.sh + o) v', t, fr, this, by simpa using h2, ?_, h4, by simpa using h5, by simpa using h6⟩
    intro i u u' k1 k2
    rw [List.getElem?_set] at k1
    rw [Array.getElem?_setIfInBounds] at k2
    by_cases e : o = i
    · subst e
      rw [if_pos rfl, if_pos ho] at k1
      rw [if_pos rfl, if_pos (by omega)] at k2
      cases k1; cases k2; exact hv
    · rw [if_neg e] at k1
      rw [if_neg (by omega)] at k2
      exact h3 i u u' k1 k2

theorem upd_upd (g : AH) (b : Nat) (o o' : AObj) : upd (upd g b o) b o' = upd g b o' := by
  funext x; unfold upd; split <;> rfl
theorem upd_same {g : AH} {b : Nat} {o : AObj} (h : g b = some o) : upd g b o = g := by
  funext x; unfold upd; split
  · rename_i e; rw [e, h]
  · rfl

/-- A row of cells written. -/
theorem storeCells_sim (P : Program) {μ : Mu} {b o : Nat} {l : Loc} (hb : μ b = some l) {gr : Option Nat} : ∀ (vs vs' : List Value) (i : Nat) (c : List Value) (g : AH) (w : World), Rel μ g w →
    g b = some (.cells c false gr) → o + i + vs.length ≤ c.length → vs.length = vs'.length → (∀ (j : Nat) (v v' : Value), vs[j]? = some v → vs'[j]? = some v' → VRel μ v v') → vs.all (·.oneCell') = true →
    ∃ w', (storeCells ⟨l.blk, l.sh + o, none⟩ vs' i).run P w = .ok () w' ∧ ∀ lo hi, Sim μ g w lo hi (upd g b (.cells (wrCells c (o + i) vs) false gr)) w' (fun μ' => μ' = μ)
  | [], [], i, c, g, w, h, hg, _, _, _, _ => by
    refine ⟨w, by simp [storeCells], fun lo hi => ?_⟩
    have : wrCells c (o + i) [] = c := by simp [wrCells]
    rw [this, upd_same hg]
    exact Sim.pure h lo hi rfl
  | v :: vs, [], _, _, _, _, _, _, _, hl, _, _ => by simp at hl
  | [], _ :: _, _, _, _, _, _, _, _, hl, _, _ => by simp at hl
  | v :: vs, v' :: vs', i, c, g, w, h, hg, hlen, hl, hrel, hone => by
    simp only [List.length_cons] at hlen hl
    simp only [List.all_cons, Bool.and_eq_true] at hone
    have hv : VRel μ v v' := hrel 0 v v' rfl rfl
    have hcell : ∃ u, w.cell? ⟨l.blk, l.sh + (o + i), none⟩ = some u := by
      obtain ⟨u, hu, _⟩ := h.cell hb hg (List.getElem?_eq_getElem (show o + i < c.length by omega))
      exact ⟨u, hu⟩
    obtain ⟨u, hu⟩ := hcell
    have hfr := h.notFrozen hb hg (show o + i < c.length by omega)
    have s1 := fun lo hi => Sim.set1 h hb hg (show o + i < c.length by omega) hv lo hi
    obtain ⟨μ1, f1, r1, n1, e1⟩ := s1 0 0
    subst e1
    have hg1 : upd g b (.cells (c.set (o + i) v) false gr) b = some (.cells (c.set (o + i) v) false gr) := by simp [upd]
    have hl1 : o + (i + 1) + vs.length ≤ (c.set (o + i) v).length := by rw [List.length_set]; omega
    obtain ⟨w', q1, q2⟩ := storeCells_sim P hb vs vs' (i + 1) (c.set (o + i) v) _ _ r1 hg1 hl1 (by omega) (fun j a a' k1 k2 => hrel (j + 1) a a' (by simpa using k1) (by simpa using k2)) hone.2
    refine ⟨w', ?_, fun lo hi => ?_⟩
    · simp only [storeCells, Sem.run_bind, Addr.add_none]
      rw [run_store _ _ _ _ _ (by rw [hv.oneCell]; exact hone.1), show l.sh + o + i = l.sh + (o + i) from by omega]
      simp only [hu, hfr, Bool.false_eq_true, if_false, Result.andThen_ok]
      exact q1
    · have s2 := q2 lo hi
      rw [upd_upd] at s2
      have hw : wrCells c (o + i) (v :: vs) = wrCells (c.set (o + i) v) (o + (i + 1)) vs := wrCells_cons c (o + i) v vs (by omega)
      rw [hw]
      obtain ⟨μ2, f2, r2, n2, e2⟩ := s2
      exact ⟨μ2, f1.trans f2, r2, n2, e2⟩

theorem AS.write_some {σ σ' : AS} {a : Addr} {vs : List Value} (h : σ.write a vs = some σ') :
    a.spot = none ∧ ∃ c gr, σ.get a.block = some (.cells c false gr) ∧ a.off + vs.length ≤ c.length ∧ vs.all (·.oneCell') = true ∧ σ' = σ.put a.block (.cells (wrCells c a.off vs) false gr) := by
  unfold AS.write at h
  split at h
  · rename_i c gr e1 e2
    refine ⟨e1, c, gr, e2, ?_⟩
    cases hh : (Nat.ble (a.off + vs.length) c.length && vs.all (·.oneCell')) with
    | false => rw [hh] at h; cases h
    | true =>
      rw [hh] at h
      simp only [cond_true, Option.some.injEq] at h
      rw [Bool.and_eq_true] at hh
      exact ⟨Nat.le_of_ble_eq_true hh.1, hh.2, h.symm⟩
  · cases h
end
end Go.VAbs

/-! The abstract machine, part 5: operations that look at no memory. -/
namespace Go.VAbs
open Go
set_option linter.unusedVariables false
noncomputable section
set_option linter.unusedSimpArgs false

structure EnvOk (E : Env) : Prop where
  und : ∀ t d, E.und t = some d → E.P.underlying t = some d
  size : ∀ t n, E.size t = some n → ∃ i, E.P.info? t = some i ∧ i.size = n
  bytes : ∀ t n, E.bytes t = some n → ∃ i, E.P.info? t = some i ∧ i.bytes = n
  zero : ∀ t z, E.zero t = some z → ∃ i, E.P.info? t = some i ∧ i.zero = some z
  fn : ∀ n f, E.fn n = some f → E.P.funcs[n]? = some f

def GlOk (E : Env) (μ : Mu) : Prop := ∀ g b, E.glob g = some b → ∃ l, μ b = some l ∧ l.blk = g ∧ l.sh = 0
theorem GlOk.mono {E : Env} {μ μ' : Mu} (h : μ.le μ') (k : GlOk E μ) : GlOk E μ' := fun g b e => let ⟨l, h1, h2⟩ := k g b e; ⟨l, h _ _ h1, h2⟩

structure TRel (μ : Mu) (T : ATmps) (tmps : Array Value) : Prop where
  size : tmps.size = T.size
  get : ∀ t, VRel μ (T.get t) (tmps.getD t undef)
theorem TRel.mono {μ μ' : Mu} (h : μ.le μ') {T : ATmps} {a : Array Value} (k : TRel μ T a) : TRel μ' T a := ⟨k.size, fun t => (k.get t).mono h⟩

theorem pureRun_run {α : Type} (P : Program) : ∀ (s : Sem α) (a : α), pureRun P s = some a → ∀ w, s.run P w = .ok a w := by
  intro s
  induction s with
  | pure a => intro b h w; simp [pureRun] at h; subst h; rfl
  | program k ih => intro b h w; simp only [pureRun] at h; simp only [Sem.run]; exact ih P b h w
  | mark m k ih => intro b h w; simp only [pureRun] at h; simp only [Sem.run]; exact ih b h w
  | _ => intro b h; simp [pureRun] at h

theorem run_underlying' {P : Program} {t : TypeId} {d : TypeDesc} (h : P.underlying t = some d) (w : World) : (underlying t).run P w = .ok d w := by
  simp [underlying, h]
theorem run_sizeOf' {P : Program} {t : TypeId} {i : TypeInfo} (h : P.info? t = some i) (w : World) : (sizeOf t).run P w = .ok i.size w := by
  simp [sizeOf, typeInfo, h]
theorem run_typeInfo' {P : Program} {t : TypeId} {i : TypeInfo} (h : P.info? t = some i) (w : World) : (typeInfo t).run P w = .ok i w := by
  simp [typeInfo, h]
theorem run_zeroValue' {P : Program} {t : TypeId} {i : TypeInfo} {z : Value} (h : P.info? t = some i) (hz : i.zero = some z) (w : World) : (zeroValue t).run P w = .ok z w := by
  simp [zeroValue, typeInfo, h, hz]
theorem EnvOk.run_und {E : Env} (hE : EnvOk E) {t : TypeId} {d : TypeDesc} (h : E.und t = some d) (w : World) : (underlying t).run E.P w = .ok d w := run_underlying' (hE.und t d h) w
theorem EnvOk.run_size {E : Env} (hE : EnvOk E) {t : TypeId} {n : Nat} (h : E.size t = some n) (w : World) : (sizeOf t).run E.P w = .ok n w := by
  obtain ⟨i, h1, h2⟩ := hE.size t n h; rw [run_sizeOf' h1, h2]
theorem EnvOk.run_zero {E : Env} (hE : EnvOk E) {t : TypeId} {z : Value} (h : E.zero t = some z) (w : World) : (zeroValue t).run E.P w = .ok z w := by
  obtain ⟨i, h1, h2⟩ := hE.zero t z h; exact run_zeroValue' h1 h2 w
theorem EnvOk.run_isAgg {E : Env} (hE : EnvOk E) {t : TypeId} {b : Bool} (h : E.isAgg t = some b) (w : World) : (isAgg t).run E.P w = .ok b w := by
  unfold Env.isAgg at h
  cases hd : E.und t with
  | none => rw [hd] at h; cases h
  | some d =>
    rw [hd] at h
    unfold isAgg
    rw [Sem.run_bind, hE.run_und hd]
    cases d <;> simp_all

theorem undef_flat (μ : Mu) : VRel μ undef undef := VRel.of_closed μ rfl
theorem goInt_rel (μ : Mu) (n : Int) : VRel μ (goInt n) (goInt n) := .flat rfl

section
variable {E : Env} {μ : Mu} {T : ATmps} {a : Act}

theorem ev_sim (hG : GlOk E μ) (hT : TRel μ T a.tmps) {x : Operand} {v : Value} (h : ev E T x = some v) : VRel μ v (a.eval x) := by
  cases x with
  | tmp t => simp only [ev, Option.some.injEq] at h; subst h; exact hT.get t
  | const u =>
    simp only [ev] at h
    cases hc : closed u with
    | false => rw [hc] at h; cases h
    | true => rw [hc] at h; simp only [cond_true, Option.some.injEq] at h; subst h; exact VRel.of_closed μ hc
  | global g =>
    simp only [ev, Option.map_eq_some_iff] at h
    obtain ⟨b, h1, h2⟩ := h
    subst h2
    obtain ⟨l, k1, k2, k3⟩ := hG g b h1
    exact .ptr ⟨l, k1, rfl, by simp [k2, k3]⟩
  | func f =>
    simp only [ev, Option.some.injEq] at h; subst h
    exact .func rfl rfl (by intro i v v' h; simp at h) (by intro i v v' h; simp at h)

theorem VRels.nil (μ : Mu) : VRels μ #[] #[] := ⟨rfl, by intro i v v' h; simp at h⟩
theorem VRels.cons {v v' : Value} {l l' : List Value} (h : VRel μ v v') (k : VRels μ l.toArray l'.toArray) : VRels μ (v :: l).toArray (v' :: l').toArray := by
  refine ⟨by simpa using k.1, ?_⟩
  intro i u u' h1 h2
  simp only [List.getElem?_toArray] at h1 h2
  cases i with
  | zero => simp at h1 h2; subst h1; subst h2; exact h
  | succ i => exact k.2 i u u' (by simpa using h1) (by simpa using h2)
theorem VRels.list {l l' : List Value} (k : VRels μ l.toArray l'.toArray) : l.length = l'.length ∧ ∀ (i : Nat) (v v' : Value), l[i]? = some v → l'[i]? = some v' → VRel μ v v' :=
  ⟨by simpa using k.1, fun i v v' h1 h2 => k.2 i v v' (by simpa using h1) (by simpa using h2)⟩
theorem VRels.append {c c' d d' : Array Value} (h : VRels μ c c') (k : VRels μ d d') : VRels μ (c ++ d) (c' ++ d') := by
  refine ⟨by simp [h.1, k.1], ?_⟩
  intro i v v' h1 h2
  rw [Array.getElem?_append] at h1 h2
  by_cases hi : i < c.size
  · rw [if_pos hi] at h1; rw [if_pos (h.1 ▸ hi)] at h2; exact h.2 i v v' h1 h2
  · rw [if_neg hi] at h1; rw [if_neg (h.1 ▸ hi)] at h2; rw [← h.1] at h2; exact k.2 _ v v' h1 h2

theorem evs_sim (hG : GlOk E μ) (hT : TRel μ T a.tmps) : ∀ {l : List Operand} {vs : List Value}, evs E T l = some vs → VRels μ vs.toArray (l.map a.eval).toArray
  | [], vs, h => by simp only [evs, Option.some.injEq] at h; subst h; exact VRels.nil μ
  | x :: r, vs, h => by
    simp only [evs] at h
    cases h1 : ev E T x with
    | none => rw [h1] at h; cases h
    | some v =>
      rw [h1] at h
      cases h2 : evs E T r with
      | none => rw [h2] at h; cases h
      | some l =>
        rw [h2] at h; simp only [Option.some.injEq] at h; subst h
        exact VRels.cons (ev_sim hG hT h1) (evs_sim hG hT h2)

/-- Parts of a composite: places and values. -/
def PRels (μ : Mu) : List (Nat × Value) → List (Nat × Value) → Prop
  | [], [] => True
  | x :: r, y :: s => x.1 = y.1 ∧ VRel μ x.2 y.2 ∧ PRels μ r s
  | _, _ => False
theorem evParts_sim (hG : GlOk E μ) (hT : TRel μ T a.tmps) : ∀ {l : List (Nat × Operand)} {vs : List (Nat × Value)}, evParts E T l = some vs → PRels μ vs (l.map fun p => (p.1, a.eval p.2))
  | [], vs, h => by simp only [evParts, Option.some.injEq] at h; subst h; trivial
  | x :: r, vs, h => by
    simp only [evParts] at h
    cases h1 : ev E T x.2 with
    | none => rw [h1] at h; cases h
    | some v =>
      rw [h1] at h
      cases h2 : evParts E T r with
      | none => rw [h2] at h; cases h
      | some l =>
        rw [h2] at h; simp only [Option.some.injEq] at h; subst h
        exact ⟨rfl, ev_sim hG hT h1, evParts_sim hG hT h2⟩

theorem VRel.cells {v v' : Value} (h : VRel μ v v') : VRels μ v.cells v'.cells := by
  have one : ∀ {x x' : Value}, VRel μ x x' → VRels μ #[x] #[x'] := fun h => ⟨rfl, by
    intro i u u' h1 h2
    have hi : i = 0 := by have := (Array.getElem?_eq_some_iff.1 h1).1; simp at this; omega
    subst hi; simp at h1 h2; subst h1; subst h2; exact h⟩
  have hh := h
  cases h with
  | agg hc k => exact ⟨hc, k⟩
  | @flat v hf => cases v <;> first | exact one hh | simp [Go.VAbs.flat] at hf
  | _ => exact one hh

theorem setAt_rel {c c' : Array Value} (h : VRels μ c c') {v v' : Value} (hv : VRel μ v v') (i : Nat) : VRels μ (c.setIfInBounds i v) (c'.setIfInBounds i v') := by
  refine ⟨by simpa using h.1, ?_⟩
  intro j u u' h1 h2
  rw [Array.getElem?_setIfInBounds] at h1 h2
  by_cases e : i = j
  · rw [if_pos e] at h1 h2
    by_cases hi : i < c.size
    · rw [if_pos hi] at h1; rw [if_pos (h.1 ▸ hi)] at h2; cases h1; cases h2; exact hv
    · rw [if_neg hi] at h1; cases h1
  · rw [if_neg e] at h1 h2; exact h.2 j u u' h1 h2

theorem foldSet_rel (off : Nat) : ∀ (l l' : List (Value × Nat)) (c c' : Array Value), l.length = l'.length → (∀ (i : Nat) (x x' : Value × Nat), l[i]? = some x → l'[i]? = some x' → VRel μ x.1 x'.1 ∧ x.2 = x'.2) → VRels μ c c' →
    VRels μ (l.foldl (fun cs (p : Value × Nat) => cs.setIfInBounds (off + p.2) p.1) c) (l'.foldl (fun cs (p : Value × Nat) => cs.setIfInBounds (off + p.2) p.1) c')
  | [], [], c, c', _, _, h => h
  | x :: l, [], _, _, hl, _, _ => by simp at hl
  | [], _ :: _, _, _, hl, _, _ => by simp at hl
  | x :: l, x' :: l', c, c', hl, hr, h => by
    simp only [List.foldl_cons]
    obtain ⟨h1, h2⟩ := hr 0 x x' rfl rfl
    refine foldSet_rel off l l' _ _ (by simpa using hl) (fun i y y' k1 k2 => hr (i + 1) y y' (by simpa using k1) (by simpa using k2)) ?_
    rw [h2]; exact setAt_rel h h1 _

theorem fill_rel (place : Nat → Option (Nat × Nat)) : ∀ (l l' : List (Nat × Value)) (c c' r : Array Value), PRels μ l l' → VRels μ c c' → Instr.fill place c l = some r →
    ∃ r', Instr.fill place c' l' = some r' ∧ VRels μ r r'
  | [], [], c, c', r, _, h, e => by simp only [Instr.fill, Option.some.injEq] at e; subst e; exact ⟨c', rfl, h⟩
  | _ :: _, [], _, _, _, hp, _, _ => hp.elim
  | [], _ :: _, _, _, _, hp, _, _ => hp.elim
  | (i, v) :: l, (i', v') :: l', c, c', r, hp, h, e => by
    obtain ⟨h1, h2, h3⟩ := hp
    simp only at h1; subst h1
    simp only [Instr.fill] at e ⊢
    have hcells := VRel.cells h2
    cases hpl : place i with
    | none => rw [hpl] at e; cases e
    | some p =>
      obtain ⟨off, size⟩ := p
      rw [hpl] at e
      simp only at e ⊢
      rw [← hcells.1, ← h.1]
      split at e
      · cases e
      · rename_i hc
        rw [if_neg hc]
        refine fill_rel place l l' _ _ r h3 ?_ e
        rw [← Array.foldl_toList, ← Array.foldl_toList]
        refine foldSet_rel off _ _ _ _ (by simp [hcells.1]) ?_ h
        intro j x x' k1 k2
        simp only [Array.toList_zipIdx, List.getElem?_zipIdx, Nat.zero_add] at k1 k2
        cases h4 : v.cells.toList[j]? with
        | none => rw [h4] at k1; simp at k1
        | some y =>
          cases h5 : v'.cells.toList[j]? with
          | none => rw [h5] at k2; simp at k2
          | some y' =>
            rw [h4] at k1; rw [h5] at k2; simp at k1 k2; subst k1; subst k2
            exact ⟨hcells.2 j y y' (by simpa using h4) (by simpa using h5), rfl⟩

theorem extract_rel {c c' : Array Value} (h : VRels μ c c') (i j : Nat) : VRels μ (c.extract i j) (c'.extract i j) := by
  refine ⟨by simp [h.1], ?_⟩
  intro k v v' h1 h2
  rw [Array.getElem?_extract] at h1 h2
  rw [← h.1] at h2
  split at h1
  · rename_i hk; rw [if_pos hk] at h2; exact h.2 _ v v' h1 h2
  · cases h1

theorem apart_sim (hE : EnvOk E) {t : TypeId} {c c' : Array Value} (h : VRels μ c c') {off : Nat} {v : Value} (e : apart E t c off = some v) :
    ∃ v', (∀ w, (part t c' off).run E.P w = .ok v' w) ∧ VRel μ v v' := by
  unfold apart at e
  cases hi : E.isAgg t with
  | none => rw [hi] at e; cases e
  | some b =>
    rw [hi] at e
    cases b with
    | true =>
      simp only [Option.map_eq_some_iff] at e
      obtain ⟨n, h1, h2⟩ := e
      subst h2
      refine ⟨.agg (c'.extract off (off + n)), fun w => ?_, ?_⟩
      · simp only [part, Sem.run_bind, hE.run_isAgg hi, Result.andThen_ok, if_true, hE.run_size h1, Sem.run_pure]
      · have := extract_rel h off (off + n); exact .agg this.1 this.2
    | false =>
      simp only at e
      obtain ⟨v', h1, h2⟩ := h.get e
      refine ⟨v', fun w => ?_, h2⟩
      simp only [part, Sem.run_bind, hE.run_isAgg hi, Result.andThen_ok, Bool.false_eq_true, if_false, h1, Sem.run_pure]

theorem aplaces_some : ∀ {fs : List Field} {pl : List (Nat × Nat)}, aplaces E fs = some pl → EnvOk E → ∀ w, (fs.mapM fun f => (do pure (f.offset, ← sizeOf f.type) : Sem (Nat × Nat))).run E.P w = .ok pl w
  | [], pl, h, hE, w => by simp only [aplaces, Option.some.injEq] at h; subst h; simp
  | f :: r, pl, h, hE, w => by
    simp only [aplaces] at h
    cases h1 : E.size f.type with
    | none => rw [h1] at h; cases h
    | some n =>
      rw [h1] at h
      cases h2 : aplaces E r with
      | none => rw [h2] at h; cases h
      | some l =>
        rw [h2] at h; simp only [Option.some.injEq] at h; subst h
        rw [List.mapM_cons]
        have ih := aplaces_some h2 hE w
        rw [Sem.run_bind, Sem.run_bind, hE.run_size h1]
        simp only [Result.andThen_ok, Sem.run_pure]
        rw [Sem.run_bind, ih]
        simp only [Result.andThen_ok, Sem.run_pure]

theorem abuild_sim (hE : EnvOk E) {t : TypeId} {l l' : List (Nat × Value)} (hp : PRels μ l l') {v : Value} (e : abuild E t l = some v) :
    ∃ v', (∀ w, (Instr.build t l'.toArray).run E.P w = .ok v' w) ∧ VRel μ v v' := by
  unfold abuild at e
  split at e
  · rename_i z fs hz hu
    cases hc : closed z with
    | false => rw [hc] at e; cases e
    | true =>
      rw [hc] at e
      simp only [cond_true] at e
      split at e
      · rename_i pl hpl
        simp only [Option.map_eq_some_iff] at e
        obtain ⟨r, h1, h2⟩ := e
        subst h2
        obtain ⟨r', k1, k2⟩ := fill_rel (pl.toArray[·]?) l l' z.cells z.cells r hp (VRel.cells (VRel.of_closed μ hc)) h1
        refine ⟨.agg r', fun w => ?_, .agg k2.1 k2.2⟩
        have hm := aplaces_some hpl hE w
        have hm' : (fs.mapM fun f => (do pure (f.offset, ← sizeOf f.type) : Sem (Nat × Nat))).run E.P w = .ok pl.toArray w := by
          rw [Array.mapM_eq_mapM_toList]
          simp only [Sem.run_map, hm, Result.andThen_ok]
        simp only [Instr.build, Sem.run_bind, hE.run_zero hz, Result.andThen_ok, hE.run_und hu]
        simp only [Sem.run_bind, hm', Result.andThen_ok, k1, Sem.run_pure]
      · cases e
  · rename_i z k e' hz hu
    cases hc : closed z with
    | false => rw [hc] at e; cases e
    | true =>
      rw [hc] at e
      simp only [cond_true] at e
      split at e
      · rename_i n hn
        simp only [Option.map_eq_some_iff] at e
        obtain ⟨r, h1, h2⟩ := e
        subst h2
        obtain ⟨r', k1, k2⟩ := fill_rel (fun i => some (i * n, n)) l l' z.cells z.cells r hp (VRel.cells (VRel.of_closed μ hc)) h1
        refine ⟨.agg r', fun w => ?_, .agg k2.1 k2.2⟩
        simp only [Instr.build, Sem.run_bind, hE.run_zero hz, Result.andThen_ok, hE.run_und hu, hE.run_size hn, k1, Sem.run_pure]
      · cases e
  · cases e
end
end
end Go.VAbs

/-! The abstract machine, part 6: 'apure' is what the model does. -/
namespace Go.VAbs
open Go
set_option linter.unusedVariables false
noncomputable section
set_option linter.unusedSimpArgs false

section
variable {E : Env} {μ : Mu} {T : ATmps} {a : Act}

theorem ARel.add {x x' : Addr} (h : ARel μ x x') (n : Nat) : ARel μ (x.add n) (x'.add n) := by
  obtain ⟨l, h1, h2, h3⟩ := h
  obtain ⟨b, o, s⟩ := x
  simp only at h2; subst h2; subst h3
  rw [Addr.add_none, Addr.add_none]
  exact ⟨l, h1, rfl, by simp only [Addr.mk.injEq, and_true, true_and]; omega⟩

theorem abound_some {x : Value} {y m : Nat} (h : abound x y = some m) : ∃ k i, x = .int k i ∧ 0 ≤ i ∧ i ≤ (y : Int) ∧ m = i.toNat := by
  unfold abound at h
  split at h
  · rename_i k i
    cases hc : (decide (0 ≤ i) && decide (i ≤ (y : Int))) with
    | false => rw [hc] at h; cases h
    | true =>
      rw [hc] at h
      simp only [cond_true, Option.some.injEq] at h
      simp only [Bool.and_eq_true, decide_eq_true_eq] at hc
      exact ⟨k, i, rfl, hc.1, hc.2, h.symm⟩
  · cases h
theorem abound_run {x : Value} {y y' m : Nat} (h : abound x y = some m) (hy : y ≤ y') (code : BoundsCode) (P : Program) (w : World) : (Instr.sliceBound x y' code).run P w = .ok m w := by
  obtain ⟨k, i, rfl, h0, h1, rfl⟩ := abound_some h
  have : 0 ≤ i ∧ i ≤ (y' : Int) := ⟨h0, by omega⟩
  unfold Instr.sliceBound
  rw [Sem.run_bind]
  simp only [asIntOf, Sem.run_pure, Result.andThen_ok]
  rw [if_pos this]; rfl
theorem abound_le {x : Value} {y m : Nat} (h : abound x y = some m) : m ≤ y := by
  obtain ⟨k, i, rfl, h0, h1, rfl⟩ := abound_some h; omega

/-- The bounds of a slice expression: at a capacity cap' that is cap, or more. -/
theorem abounds_run {len cap : Nat} {lo hi mx : Option Value} {l h m : Nat} (e : abounds len cap lo hi mx = some (l, h, m)) :
    l ≤ h ∧ (h ≤ m ∨ (h = len ∧ m = cap)) ∧ m ≤ cap ∧ ∀ (isSl : Bool) (cap' : Nat) (P : Program) (w : World), cap ≤ cap' → (Instr.sliceBounds isSl len cap' lo hi mx).run P w = .ok (l, h, if mx.isSome then m else cap') w := by
  unfold abounds at e
  split at e
  · cases e
  · rename_i m0 hm
    split at e
    · cases e
    · rename_i h0 hh
      split at e
      · cases e
      · rename_i l0 hl
        simp only [Option.some.injEq, Prod.mk.injEq] at e
        obtain ⟨rfl, rfl, rfl⟩ := e
        have lrun : l0 ≤ h0 := by
          cases lo with
          | none => simp only [Option.some.injEq] at hl; subst hl; exact Nat.zero_le _
          | some v => exact abound_le hl
        cases mx with
        | none =>
          simp only [Option.some.injEq] at hm; subst hm
          cases hi with
          | none =>
            simp only [Option.some.injEq] at hh; subst hh
            refine ⟨lrun, .inr ⟨rfl, rfl⟩, Nat.le_refl _, fun isSl cap' P w hc => ?_⟩
            simp only [Instr.sliceBounds, Sem.run_bind, Sem.run_pure, Result.andThen_ok, Option.isSome_none, Bool.false_eq_true, if_false]
            cases lo with
            | none => simp only [Option.some.injEq] at hl; subst hl; rfl
            | some u0 => simp only [Sem.run_bind, abound_run hl (Nat.le_refl _), Result.andThen_ok, Sem.run_pure]
          | some v =>
            simp only at hh
            refine ⟨lrun, .inl (abound_le hh), Nat.le_refl _, fun isSl cap' P w hc => ?_⟩
            simp only [Instr.sliceBounds, Sem.run_bind, Sem.run_pure, Result.andThen_ok, Option.isSome_none, Bool.false_eq_true, if_false, abound_run hh hc]
            cases lo with
            | none => simp only [Option.some.injEq] at hl; subst hl; rfl
            | some u0 => simp only [Sem.run_bind, abound_run hl (Nat.le_refl _), Result.andThen_ok, Sem.run_pure]
        | some u =>
          simp only at hm
          cases hi with
          | none => simp at hh
          | some v =>
            simp only at hh
            refine ⟨lrun, .inl (abound_le hh), abound_le hm, fun isSl cap' P w hc => ?_⟩
            simp only [Instr.sliceBounds, Sem.run_bind, Sem.run_pure, Result.andThen_ok, Option.isSome_some, if_true, abound_run hm hc, abound_run hh (Nat.le_refl _)]
            cases lo with
            | none => simp only [Option.some.injEq] at hl; subst hl; rfl
            | some u0 => simp only [Sem.run_bind, abound_run hl (Nat.le_refl _), Result.andThen_ok, Sem.run_pure]

/-- A bound's operand is a number: the same on either side. -/
theorem evOpt_sim (hG : GlOk E μ) (hT : TRel μ T a.tmps) {x : Option Operand} {v : Option Value} (h : evOpt E T x = some v) :
    (x = none ∧ v = none) ∨ ∃ y u, x = some y ∧ v = some u ∧ VRel μ u (a.eval y) := by
  cases x with
  | none => simp only [evOpt, Option.some.injEq] at h; exact .inl ⟨rfl, h.symm⟩
  | some y =>
    simp only [evOpt, Option.map_eq_some_iff] at h
    obtain ⟨u, h1, h2⟩ := h
    exact .inr ⟨y, u, rfl, h2.symm, ev_sim hG hT h1⟩
theorem abound_same {v v' : Value} (h : VRel μ v v') {y m : Nat} (e : abound v y = some m) : v' = v := by
  obtain ⟨k, i, rfl, _⟩ := abound_some e
  exact h.eq_of_flat rfl
/-- The operands of a slice expression's bounds are numbers. -/
theorem abounds_same (hG : GlOk E μ) (hT : TRel μ T a.tmps) {lo hi mx : Option Operand} {l h m : Option Value} (h1 : evOpt E T lo = some l) (h2 : evOpt E T hi = some h) (h3 : evOpt E T mx = some m)
    {len cap : Nat} {r : Nat × Nat × Nat} (e : abounds len cap l h m = some r) : lo.map a.eval = l ∧ hi.map a.eval = h ∧ mx.map a.eval = m := by
  have key : ∀ {x : Option Operand} {v : Option Value}, evOpt E T x = some v → (∀ u, v = some u → ∃ k n, u = Value.int k n) → x.map a.eval = v := by
    intro x v hx hk
    rcases evOpt_sim hG hT hx with ⟨rfl, rfl⟩ | ⟨y, u, rfl, rfl, hr⟩
    · rfl
    · obtain ⟨k, n, rfl⟩ := hk u rfl
      rw [Option.map_some, hr.eq_of_flat rfl]
  unfold abounds at e
  split at e
  · cases e
  · rename_i m0 hm
    split at e
    · cases e
    · rename_i h0 hh
      split at e
      · cases e
      · rename_i l0 hl
        refine ⟨key h1 ?_, key h2 ?_, key h3 ?_⟩
        · rintro u rfl; obtain ⟨k, i, q, _⟩ := abound_some hl; exact ⟨k, i, q⟩
        · rintro u rfl
          simp only at hh
          obtain ⟨k, i, q, _⟩ := abound_some hh; exact ⟨k, i, q⟩
        · rintro u rfl
          simp only at hm
          obtain ⟨k, i, q, _⟩ := abound_some hm; exact ⟨k, i, q⟩

theorem aslice_sim (hE : EnvOk E) {t : TypeId} {x x' : Value} (hx : VRel μ x x') {lo hi mx : Option Value} {v : Value} (e : aslice E t x lo hi mx = some v) :
    ∃ v', (∀ w, (Instr.sliceAt t x' lo hi mx).run E.P w = .ok v' w) ∧ VRel μ v v' := by
  unfold aslice at e
  split at e
  · rename_i s hu
    rw [hx.eq_of_flat rfl]
    split at e
    · simp only [Option.map_eq_some_iff] at e
      obtain ⟨⟨l, h, m⟩, h1, h2⟩ := e
      subst h2
      obtain ⟨k1, k2, k3, k4⟩ := abounds_run h1
      refine ⟨_, fun w => ?_, .flat rfl⟩
      have := k4 false s.size E.P w (Nat.le_refl _)
      simp only [Option.isSome_none, Bool.false_eq_true, if_false] at this
      simp only [Instr.sliceAt, Instr.slice, Sem.run_bind, hE.run_und hu, Result.andThen_ok, this, Sem.run_pure, Option.isSome_none, Bool.false_eq_true, if_false]
    · cases e
  · rename_i e0 len cap hu
    rw [hx.eq_of_flat rfl]
    split at e
    · rename_i l h m e1 h1 hu2
      rw [hu] at hu2; cases hu2
      split at e
      · rename_i n hn
        simp only [Option.some.injEq] at e; subst e
        obtain ⟨k1, k2, k3, k4⟩ := abounds_run h1
        refine ⟨_, fun w => ?_, .flat rfl⟩
        have := k4 true cap E.P w (Nat.le_refl _)
        simp only [Instr.sliceAt, Instr.slice, Sem.run_bind, hE.run_und hu, Result.andThen_ok, this, Sem.run_pure, hE.run_size hn, Option.map_none, ite_self]
        congr 2
        cases mx with
        | some u => simp
        | none =>
          simp only [Option.isSome_none, Bool.false_eq_true, if_false]
          have : m = cap := by
            unfold abounds at h1
            simp only at h1
            split at h1
            · cases h1
            · split at h1
              · cases h1
              · simp only [Option.some.injEq, Prod.mk.injEq] at h1; exact h1.2.2.symm
          rw [this]
      · cases e
    · cases e
  · rename_i k e0 ad hu
    split at e
    · rename_i l h m n h1 hn
      simp only [Option.some.injEq] at e; subst e
      cases hx with
      | flat hf => simp [Go.VAbs.flat] at hf
      | @ptr _ ad' hA =>
        obtain ⟨k1, k2, k3, k4⟩ := abounds_run h1
        have hm : (if mx.isSome then m else k) = m := by
          cases mx with
          | some u => simp
          | none =>
            simp only [Option.isSome_none, Bool.false_eq_true, if_false]
            unfold abounds at h1
            simp only at h1
            split at h1
            · cases h1
            · split at h1
              · cases h1
              · simp only [Option.some.injEq, Prod.mk.injEq] at h1; exact h1.2.2
        refine ⟨.slice (some (if m = l then ad' else ad'.add (l * n))) (h - l) (m - l), fun w => ?_, ?_⟩
        · have := k4 false k E.P w (Nat.le_refl _)
          rw [hm] at this
          simp only [Instr.sliceAt, Sem.run_bind, hE.run_und hu, Result.andThen_ok, Instr.sureAddr, this, Sem.run_pure, hE.run_size hn]
        · by_cases eq : m = l
          · rw [if_pos eq]
            have : h - l = 0 := by omega
            exact .slice (.inl ⟨this, by omega, by omega⟩)
          · rw [if_neg eq]
            exact .slice (.inr ⟨hA.add _, .inl rfl⟩)
    · cases e
  · cases e

theorem aindexAddr_sim (hE : EnvOk E) {t : TypeId} {x x' i i' : Value} (hx : VRel μ x x') (hi : VRel μ i i') {v : Value} (e : aindexAddr E t x i = some v) :
    ∃ v', (∀ w, (Instr.indexAt t x' i').run E.P w = .ok v' w) ∧ VRel μ v v' := by
  unfold aindexAddr at e
  split at e
  · rename_i n e0 ad k z hu
    rw [hi.eq_of_flat rfl]
    split at e
    · rename_i s hs
      cases hc : (decide (0 ≤ z) && decide (z < (n : Int))) with
      | false => rw [hc] at e; cases e
      | true =>
        rw [hc] at e
        simp only [cond_true, Option.some.injEq] at e; subst e
        simp only [Bool.and_eq_true, decide_eq_true_eq] at hc
        cases hx with
        | flat hf => simp [Go.VAbs.flat] at hf
        | @ptr _ ad' hA =>
          refine ⟨_, fun w => ?_, .ptr (hA.add (z.toNat * s))⟩
          simp only [Instr.indexAt, Sem.run_bind, asIntOf, Sem.run_pure, Result.andThen_ok, hE.run_und hu, Instr.sureAddr]
          rw [if_pos hc]
          simp only [Sem.run_bind, hE.run_size hs, Result.andThen_ok, Sem.run_pure]
    · cases e
  · rename_i e0 ad n c k z hu
    rw [hi.eq_of_flat rfl]
    split at e
    · rename_i s hs
      cases hc : (decide (0 ≤ z) && decide (z < (n : Int))) with
      | false => rw [hc] at e; cases e
      | true =>
        rw [hc] at e
        simp only [cond_true, Option.some.injEq] at e; subst e
        simp only [Bool.and_eq_true, decide_eq_true_eq] at hc
        cases hx with
        | flat hf => simp [Go.VAbs.flat] at hf
        | @slice _ ad' _ _ c' hL =>
          have hA : ARel μ ad ad' := by
            rcases hL with ⟨q, _⟩ | ⟨q, _⟩
            · omega
            · exact q
          refine ⟨_, fun w => ?_, .ptr (hA.add (z.toNat * s))⟩
          simp only [Instr.indexAt, Sem.run_bind, asIntOf, Sem.run_pure, Result.andThen_ok, hE.run_und hu]
          rw [if_pos hc]
          simp only [Sem.run_bind, hE.run_size hs, Result.andThen_ok, Sem.run_pure]
    · cases e
  · cases e

theorem aindex_sim (hE : EnvOk E) {t : TypeId} {x x' i i' : Value} (hx : VRel μ x x') (hi : VRel μ i i') {v : Value} (e : aindex E t x i = some v) :
    ∃ v', (∀ w, (Instr.index t x' i').run E.P w = .ok v' w) ∧ VRel μ v v' := by
  unfold aindex at e
  split at e
  · rename_i n e0 cs k z hu
    rw [hi.eq_of_flat rfl]
    split at e
    · rename_i s hs
      cases hc : (decide (0 ≤ z) && decide (z < (n : Int))) with
      | false => rw [hc] at e; cases e
      | true =>
        rw [hc] at e
        simp only [cond_true] at e
        simp only [Bool.and_eq_true, decide_eq_true_eq] at hc
        cases hx with
        | flat hf => simp [Go.VAbs.flat] at hf
        | @agg _ cs' h1 h2 =>
          obtain ⟨v', k1, k2⟩ := apart_sim hE ⟨h1, h2⟩ e
          refine ⟨v', fun w => ?_, k2⟩
          simp only [Instr.index, Sem.run_bind, asIntOf, Sem.run_pure, Result.andThen_ok, hE.run_und hu]
          rw [if_pos hc]
          simp only [Sem.run_bind, hE.run_size hs, Result.andThen_ok, k1]
    · cases e
  · rename_i s k z hu
    rw [hi.eq_of_flat rfl, hx.eq_of_flat rfl]
    cases hc : decide (0 ≤ z) with
    | false => rw [hc] at e; cases e
    | true =>
      rw [hc] at e
      simp only [cond_true, Option.map_eq_some_iff] at e
      obtain ⟨b, h1, h2⟩ := e
      subst h2
      refine ⟨_, fun w => ?_, .flat rfl⟩
      have hz : 0 ≤ z := of_decide_eq_true hc
      have h3 : s[z.toNat]? = some b := by
        obtain ⟨q1, q2⟩ := Array.getElem?_eq_some_iff.1 h1
        rw [getElem?_pos s z.toNat (by simpa using q1)]
        exact congrArg some q2
      simp only [Instr.index, Sem.run_bind, asIntOf, Sem.run_pure, Result.andThen_ok, hE.run_und hu, hz, if_true, h3]
  · cases e
end
end
end Go.VAbs

/-! The abstract machine, part 7: 'apure' is what the model does, put together. -/
namespace Go.VAbs
open Go
set_option linter.unusedVariables false
noncomputable section
set_option linter.unusedSimpArgs false

section
variable {E : Env} {μ : Mu} {T : ATmps} {a : Act}

theorem equalIn_bind {E : Env} (hE : EnvOk E) (d : Nat) {t : TypeId} {D : TypeDesc} (hu : E.und t = some D) (x y : Value) (w : World) {r : Result Bool}
    (h : ∀ (s : TypeDesc → Sem Bool), Op.equalIn (d + 1) t x y = (underlying t >>= s) → (s D).run E.P w = r) : (Op.equalIn (d + 1) t x y).run E.P w = r := by
  have e : ∃ s, Op.equalIn (d + 1) t x y = (underlying t >>= s) := by unfold Op.equalIn; exact ⟨_, rfl⟩
  obtain ⟨s, hs⟩ := e
  rw [hs, Sem.run_bind, hE.run_und hu, Result.andThen_ok]
  exact h s hs

theorem eq_bool {E : Env} (hE : EnvOk E) (d : Nat) {t : TypeId} (hu : E.und t = some .bool) (x y : Bool) (w : World) : (Op.equalIn (d + 1) t (.bool x) (.bool y)).run E.P w = .ok (x == y) w := by
  unfold Op.equalIn; rw [Sem.run_bind, hE.run_und hu]; rfl
theorem eq_ptr_nil {E : Env} (hE : EnvOk E) (d : Nat) {t : TypeId} {e : TypeId} (hu : E.und t = some (.pointer e)) (q : Option Addr) (w : World) : (Op.equalIn (d + 1) t (.pointer none) (.pointer q)).run E.P w = .ok q.isNone w := by
  unfold Op.equalIn; rw [Sem.run_bind, hE.run_und hu]; rfl
theorem eq_nil_ptr {E : Env} (hE : EnvOk E) (d : Nat) {t : TypeId} {e : TypeId} (hu : E.und t = some (.pointer e)) (q : Addr) (w : World) : (Op.equalIn (d + 1) t (.pointer (some q)) (.pointer none)).run E.P w = .ok false w := by
  unfold Op.equalIn; rw [Sem.run_bind, hE.run_und hu]; rfl
theorem eq_slice_nil {E : Env} (hE : EnvOk E) (d : Nat) {t : TypeId} {e : TypeId} (hu : E.und t = some (.slice e)) (n c m k : Nat) (q : Option Addr) (w : World) : (Op.equalIn (d + 1) t (.slice none n c) (.slice q m k)).run E.P w = .ok q.isNone w := by
  unfold Op.equalIn; rw [Sem.run_bind, hE.run_und hu]; rfl
theorem eq_nil_slice {E : Env} (hE : EnvOk E) (d : Nat) {t : TypeId} {e : TypeId} (hu : E.und t = some (.slice e)) (n c m k : Nat) (q : Addr) (w : World) : (Op.equalIn (d + 1) t (.slice (some q) n c) (.slice none m k)).run E.P w = .ok false w := by
  unfold Op.equalIn; rw [Sem.run_bind, hE.run_und hu]; rfl
theorem eq_map_nil {E : Env} (hE : EnvOk E) (d : Nat) {t : TypeId} {e f : TypeId} (hu : E.und t = some (.map e f)) (q : Option Nat) (w : World) : (Op.equalIn (d + 1) t (.map none) (.map q)).run E.P w = .ok q.isNone w := by
  unfold Op.equalIn; rw [Sem.run_bind, hE.run_und hu]; rfl
theorem eq_nil_map {E : Env} (hE : EnvOk E) (d : Nat) {t : TypeId} {e f : TypeId} (hu : E.und t = some (.map e f)) (q : Nat) (w : World) : (Op.equalIn (d + 1) t (.map (some q)) (.map none)).run E.P w = .ok false w := by
  unfold Op.equalIn; rw [Sem.run_bind, hE.run_und hu]; rfl
theorem eq_nil_func {E : Env} (hE : EnvOk E) (d : Nat) {t : TypeId} {p q : Array TypeId} {v : Bool} (hu : E.und t = some (.func p q v)) (w : World) : (Op.equalIn (d + 1) t .nilFunc .nilFunc).run E.P w = .ok true w := by
  unfold Op.equalIn; rw [Sem.run_bind, hE.run_und hu]; rfl
theorem eq_nil_func1 {E : Env} (hE : EnvOk E) (d : Nat) {t : TypeId} {p q : Array TypeId} {v : Bool} (hu : E.und t = some (.func p q v)) (f : Fn) (x y : Array Value) (w : World) : (Op.equalIn (d + 1) t .nilFunc (.func f x y)).run E.P w = .ok false w := by
  unfold Op.equalIn; rw [Sem.run_bind, hE.run_und hu]; rfl
theorem eq_nil_func2 {E : Env} (hE : EnvOk E) (d : Nat) {t : TypeId} {p q : Array TypeId} {v : Bool} (hu : E.und t = some (.func p q v)) (f : Fn) (x y : Array Value) (w : World) : (Op.equalIn (d + 1) t (.func f x y) .nilFunc).run E.P w = .ok false w := by
  unfold Op.equalIn; rw [Sem.run_bind, hE.run_und hu]; rfl

theorem nilEq_sim (hE : EnvOk E) {t : TypeId} {x x' y y' : Value} (hx : VRel μ x x') (hy : VRel μ y y') {r : Bool} (e : nilEq E t x y = some r) (d : Nat) (w : World) :
    (Op.equalIn (d + 1) t x' y').run E.P w = .ok r w := by
  unfold nilEq at e
  split at e
  · rename_i hu
    rw [hx.eq_of_flat rfl, hy.eq_of_flat rfl]
    simp only [Option.some.injEq] at e; subst e
    exact eq_bool hE d hu _ _ w
  · rename_i hu
    rw [hx.eq_of_flat rfl]
    simp only [Option.some.injEq] at e; subst e
    cases hy with
    | flat hf => exact eq_ptr_nil hE d hu _ w
    | ptr _ => exact eq_ptr_nil hE d hu _ w
  · rename_i p hne hu
    rw [hy.eq_of_flat rfl]
    simp only [Option.some.injEq] at e; subst e
    cases hx with
    | flat hf =>
      cases p with
      | none => exact (hne rfl).elim
      | some q => simp [Go.VAbs.flat] at hf
    | ptr _ => exact eq_nil_ptr hE d hu _ w
  · rename_i hu
    rw [hx.eq_of_flat rfl]
    simp only [Option.some.injEq] at e; subst e
    cases hy with
    | flat hf => exact eq_slice_nil hE d hu _ _ _ _ _ w
    | slice _ => exact eq_slice_nil hE d hu _ _ _ _ _ w
  · rename_i p n c m k hne hu
    rw [hy.eq_of_flat rfl]
    simp only [Option.some.injEq] at e; subst e
    cases hx with
    | flat hf =>
      cases p with
      | none => exact (hne rfl).elim
      | some q => simp [Go.VAbs.flat] at hf
    | slice _ => exact eq_nil_slice hE d hu _ _ _ _ _ w
  · rename_i hu
    rw [hx.eq_of_flat rfl]
    simp only [Option.some.injEq] at e; subst e
    cases hy with
    | flat hf => exact eq_map_nil hE d hu _ w
    | map _ => exact eq_map_nil hE d hu _ w
  · rename_i p hne hu
    rw [hy.eq_of_flat rfl]
    simp only [Option.some.injEq] at e; subst e
    cases hx with
    | flat hf =>
      cases p with
      | none => exact (hne rfl).elim
      | some q => simp [Go.VAbs.flat] at hf
    | map _ => exact eq_nil_map hE d hu _ w
  · rename_i hu
    rw [hx.eq_of_flat rfl, hy.eq_of_flat rfl]
    simp only [Option.some.injEq] at e; subst e
    exact eq_nil_func hE d hu w
  · rename_i hu
    rw [hx.eq_of_flat rfl]
    simp only [Option.some.injEq] at e; subst e
    cases hy with
    | flat hf => exact eq_nil_func1 hE d hu _ _ _ w
    | func _ _ _ _ => exact eq_nil_func1 hE d hu _ _ _ w
  · rename_i hu
    rw [hy.eq_of_flat rfl]
    simp only [Option.some.injEq] at e; subst e
    cases hx with
    | flat hf => exact eq_nil_func2 hE d hu _ _ _ w
    | func _ _ _ _ => exact eq_nil_func2 hE d hu _ _ _ w
  · cases e

/-- Nothing that the guard of '==' looks at. -/
def guardless : Value → Bool
  | .nilIface | .agg _ => false
  | _ => true
theorem eqGuard_run (P : Program) (op : BinOp) (t : TypeId) (x y : Operand) (u v : Value) (h : guardless u = true) (w : World) : (eqGuard op t x y u v).run P w = .ok () w := by
  unfold eqGuard
  cases op <;> first | rfl | (cases u <;> first | rfl | simp [guardless] at h)
theorem VRel.guardless {v v' : Value} (h : VRel μ v v') : guardless v' = guardless v := by cases h <;> rfl
theorem isLit_flat {v : Value} (h : isLit v = true) : flat v = true ∧ guardless v = true := by cases v <;> first | exact ⟨rfl, rfl⟩ | simp [isLit] at h

theorem binOp_eql (P : Program) (t : TypeId) (u v : Value) (hl : (isLit u && isLit v) = false) (w : World) {r : Bool} (hs : (∃ b, u = .bool b) ∨ (∃ p, u = .pointer p) ∨ (∃ p n c, u = .slice p n c) ∨ (∃ m, u = .map m) ∨ u = .nilFunc ∨ ∃ f x y, u = .func f x y)
    (h : (Op.equal t u v).run P w = .ok r w) : (binOp .eql t u v).run P w = .ok (.bool r) w := by
  have : binOp .eql t u v = (do pure (.bool (← Op.equal t u v))) := by
    rcases hs with ⟨b, rfl⟩ | ⟨p, rfl⟩ | ⟨p, n, c, rfl⟩ | ⟨m, rfl⟩ | rfl | ⟨f, x, y, rfl⟩ <;> rfl
  rw [this, Sem.run_bind, h]; rfl
theorem binOp_neq (P : Program) (t : TypeId) (u v : Value) (hl : (isLit u && isLit v) = false) (w : World) {r : Bool} (hs : (∃ b, u = .bool b) ∨ (∃ p, u = .pointer p) ∨ (∃ p n c, u = .slice p n c) ∨ (∃ m, u = .map m) ∨ u = .nilFunc ∨ ∃ f x y, u = .func f x y)
    (h : (Op.equal t u v).run P w = .ok r w) : (binOp .neq t u v).run P w = .ok (.bool !r) w := by
  have : binOp .neq t u v = (do pure (.bool (!(← Op.equal t u v)))) := by
    rcases hs with ⟨b, rfl⟩ | ⟨p, rfl⟩ | ⟨p, n, c, rfl⟩ | ⟨m, rfl⟩ | rfl | ⟨f, x, y, rfl⟩ <;> rfl
  rw [this, Sem.run_bind, h]; rfl
theorem nilEq_shape {t : TypeId} {x x' y : Value} (hx : VRel μ x x') {r : Bool} (e : nilEq E t x y = some r) :
    guardless x' = true ∧ ((∃ b, x' = .bool b) ∨ (∃ p, x' = .pointer p) ∨ (∃ p n c, x' = .slice p n c) ∨ (∃ m, x' = .map m) ∨ x' = .nilFunc ∨ ∃ f x y, x' = .func f x y) := by
  unfold nilEq at e
  split at e <;> first
    | (cases e; done)
    | (cases hx <;> refine ⟨rfl, ?_⟩ <;> (first
        | exact .inl ⟨_, rfl⟩
        | exact .inr (.inl ⟨_, rfl⟩)
        | exact .inr (.inr (.inl ⟨_, _, _, rfl⟩))
        | exact .inr (.inr (.inr (.inl ⟨_, rfl⟩)))
        | exact .inr (.inr (.inr (.inr (.inl rfl))))
        | exact .inr (.inr (.inr (.inr (.inr ⟨_, _, _, rfl⟩))))))

theorem pureVal_sim {P : Program} {s : Sem Value} {r : Value} (e : pureVal P s = some r) : (∀ w, s.run P w = .ok r w) ∧ VRel μ r r := by
  unfold pureVal at e
  split at e
  · rename_i r' h
    cases hc : closed r' with
    | false => rw [hc] at e; cases e
    | true => rw [hc] at e; simp only [cond_true, Option.some.injEq] at e; subst e; exact ⟨pureRun_run P s r' h, VRel.of_closed μ hc⟩
  · cases e

theorem abin_sim (hE : EnvOk E) {op : BinOp} {t : TypeId} {x y : Operand} {u u' v v' : Value} (hu : VRel μ u u') (hv : VRel μ v v') {r : Value} (e : abin E op t x y u v = some r) (w : World) :
    ∃ r', (do eqGuard op t x y u' v'; binOp op t u' v').run E.P w = .ok r' w ∧ VRel μ r r' := by
  unfold abin at e
  cases hl : (isLit u && isLit v) with
  | true =>
    rw [hl] at e
    simp only [cond_true] at e
    simp only [Bool.and_eq_true] at hl
    rw [hu.eq_of_flat (isLit_flat hl.1).1, hv.eq_of_flat (isLit_flat hl.2).1]
    obtain ⟨k1, k2⟩ := pureVal_sim (μ := μ) e
    refine ⟨r, ?_, k2⟩
    rw [Sem.run_bind, eqGuard_run _ _ _ _ _ _ _ (isLit_flat hl.1).2]
    exact k1 w
  | false =>
    rw [hl] at e
    simp only [cond_false] at e
    have hl' : (isLit u' && isLit v') = false := by
      have q : ∀ {z z' : Value}, VRel μ z z' → isLit z' = isLit z := by intro z z' h; cases h <;> rfl
      rw [q hu, q hv]; exact hl
    split at e
    · rename_i q hq
      simp only [Option.some.injEq] at e; subst e
      obtain ⟨g1, g2⟩ := nilEq_shape hu hq
      refine ⟨.bool q, ?_, .flat rfl⟩
      rw [Sem.run_bind, eqGuard_run _ _ _ _ _ _ _ g1]
      exact binOp_eql _ _ _ _ hl' w g2 (nilEq_sim hE hu hv hq 9999 w)
    · rename_i q hq
      simp only [Option.some.injEq] at e; subst e
      obtain ⟨g1, g2⟩ := nilEq_shape hu hq
      refine ⟨.bool !q, ?_, .flat rfl⟩
      rw [Sem.run_bind, eqGuard_run _ _ _ _ _ _ _ g1]
      exact binOp_neq _ _ _ _ hl' w g2 (nilEq_sim hE hu hv hq 9999 w)
    · cases hc : (closed u && closed v) with
      | false => rw [hc] at e; cases e
      | true =>
        rw [hc] at e
        simp only [cond_true] at e
        simp only [Bool.and_eq_true] at hc
        rw [hu.eq_of_closed hc.1, hv.eq_of_closed hc.2]
        obtain ⟨k1, k2⟩ := pureVal_sim (μ := μ) e
        exact ⟨r, k1 w, k2⟩

theorem aconv_sim (hE : EnvOk E) {s d : TypeId} {v v' : Value} (hv : VRel μ v v') {r : Value} (e : aconv E s d v = some r) (w : World) :
    ∃ r', (convert s d v').run E.P w = .ok r' w ∧ VRel μ r r' := by
  unfold aconv at e
  split at e <;> first
    | (cases e; done)
    | (rename_i h1 h2
       rw [hv.eq_of_flat rfl]
       simp only [Option.some.injEq] at e; subst e
       refine ⟨_, ?_, .flat rfl⟩
       unfold convert
       rw [Sem.run_bind, hE.run_und h1, Result.andThen_ok, Sem.run_bind, hE.run_und h2, Result.andThen_ok]
       first | rfl | (cases h1 : E.und s <;> rfl))
end
end
end Go.VAbs

/-! The abstract machine, part 8: 'apure' is what the model does. -/
namespace Go.VAbs
open Go
set_option linter.unusedVariables false
noncomputable section
set_option linter.unusedSimpArgs false

section
variable {E : Env} {μ : Mu} {T : ATmps} {a : Act}

theorem run_value {P : Program} {s : Sem Value} {v : Value} {w w' : World} (h : s.run P w = .ok v w') : (do pure (Next.value (← s)) : Sem Next).run P w = .ok (.value v) w' := by
  rw [Sem.run_bind, h]; rfl

theorem evs_two {x y : Value} {l : List Operand} (h : evs E T l = some [x, y]) (hG : GlOk E μ) (hT : TRel μ T a.tmps) : ∃ p q, l = [p, q] ∧ VRel μ x (a.eval p) ∧ VRel μ y (a.eval q) := by
  have h1 := evs_sim hG hT h
  have hl := h1.1
  match l, hl with
  | [p, q], _ =>
    refine ⟨p, q, rfl, ?_, ?_⟩
    · exact h1.2 0 _ _ rfl rfl
    · exact h1.2 1 _ _ rfl rfl
  | [], hl => simp at hl
  | [_], hl => simp at hl
  | _ :: _ :: _ :: _, hl => simp at hl
theorem evs_one {x : Value} {l : List Operand} (h : evs E T l = some [x]) (hG : GlOk E μ) (hT : TRel μ T a.tmps) : ∃ p, l = [p] ∧ VRel μ x (a.eval p) := by
  have h1 := evs_sim hG hT h
  have hl := h1.1
  match l, hl with
  | [p], _ => exact ⟨p, rfl, h1.2 0 _ _ rfl rfl⟩
  | [], hl => simp at hl
  | _ :: _ :: _, hl => simp at hl

theorem alen_sim (hE : EnvOk E) {t : TypeId} {x x' : Value} (hx : VRel μ x x') {v : Value} (e : alen E t x = some v) (ts : Array TypeId) (ht : ts[0]? = some t) (ty : TypeId) (w : World) :
    (Builtin.len_ ts ty #[x']).run E.P w = .ok v w ∧ VRel μ v v := by
  unfold alen at e
  split at e <;> first
    | (cases e; done)
    | skip
  · rename_i hu
    rw [hx.eq_of_flat rfl]; simp only [Option.some.injEq] at e; subst e
    refine ⟨?_, .flat rfl⟩
    unfold Builtin.len_
    simp only [ht]
    simp only [List.getElem?_toArray, List.getElem?_cons_zero]
    rw [Sem.run_bind, hE.run_und hu]; rfl
  · rename_i p n c hu
    simp only [Option.some.injEq] at e; subst e
    refine ⟨?_, .flat rfl⟩
    unfold Builtin.len_
    simp only [ht]
    simp only [List.getElem?_toArray, List.getElem?_cons_zero]
    rw [Sem.run_bind, hE.run_und hu]
    cases hx <;> rfl
  · rename_i n hu
    simp only [Option.some.injEq] at e; subst e
    refine ⟨?_, .flat rfl⟩
    unfold Builtin.len_
    simp only [ht]
    simp only [List.getElem?_toArray, List.getElem?_cons_zero]
    rw [Sem.run_bind, hE.run_und hu]
    cases x' <;> rfl
  · rename_i hu
    rw [hx.eq_of_flat rfl]; simp only [Option.some.injEq] at e; subst e
    refine ⟨?_, .flat rfl⟩
    unfold Builtin.len_
    simp only [ht]
    simp only [List.getElem?_toArray, List.getElem?_cons_zero]
    rw [Sem.run_bind, hE.run_und hu]; rfl

theorem resolve_builtin (ρ : Operand → Value) (b : Builtin) (args : Array Operand) (ts : Array TypeId) (ty : TypeId) (P : Program) (w : World) {r : Result Next}
    (h : ∀ consts, (builtin b ts ty consts (args.map ρ)).run P w = r) : (do let d ← resolve ρ { callee := .builtin b, args, argTypes := ts } ty; invoke d.target d.args).run P w = r := by
  unfold resolve
  simp only [Sem.run_bind, Sem.run_pure, Result.andThen_ok]
  exact h _

theorem apure_sim (hE : EnvOk E) (hG : GlOk E μ) (hT : TRel μ T a.tmps) {o : Oper} {v : Value} (e : apure E T o.op = some v) (w : World) :
    ∃ v', (execOp a.eval o).run E.P w = .ok (.value v') w ∧ VRel μ v v' := by
  have EV := fun {x : Operand} {v : Value} (h : ev E T x = some v) => ev_sim (a := a) hG hT h
  unfold execOp
  cases ho : o.op with
  | move x => rw [ho] at e; exact ⟨_, rfl, EV e⟩
  | assign x => rw [ho] at e; exact ⟨_, rfl, EV e⟩
  | pick c x y =>
    rw [ho] at e
    simp only [apure] at e
    split at e
    · rename_i hc
      refine ⟨_, ?_, EV e⟩
      simp only [Sem.run_bind, (EV hc).eq_of_flat rfl, asBool, Sem.run_pure, Result.andThen_ok, if_true]
    · rename_i hc
      refine ⟨_, ?_, EV e⟩
      simp only [Sem.run_bind, (EV hc).eq_of_flat rfl, asBool, Sem.run_pure, Result.andThen_ok, Bool.false_eq_true, if_false]
    · cases e
  | nilCheck x =>
    rw [ho] at e
    simp only [apure] at e
    split at e
    · cases e
    · cases e
    · cases e
    · cases e
    · rename_i f p q hx
      simp only [Option.some.injEq] at e; subst e
      have hr := EV hx
      dsimp only
      generalize a.eval x = u at hr ⊢
      refine ⟨u, ?_, hr⟩
      cases hr with
      | flat hf => rfl
      | func _ _ _ _ => rfl
    · cases e
    · rename_i v0 n1 n2 n3 n4 n5 hx
      simp only [Option.some.injEq] at e; subst e
      have hr := EV hx
      dsimp only
      generalize a.eval x = u at hr ⊢
      refine ⟨u, ?_, hr⟩
      cases hr with
      | @flat v0 hf =>
        cases v0 with
        | pointer p => cases p with
          | none => exact (n1 rfl).elim
          | some q => rfl
        | nilIface => exact (n2 rfl).elim
        | nilFunc => exact (n3 rfl).elim
        | func p q r => exact (n5 _ _ _ rfl).elim
        | _ => rfl
      | func _ _ _ _ => exact (n5 _ _ _ rfl).elim
      | _ => rfl
  | binOp op t x y yt =>
    rw [ho] at e
    simp only [apure] at e
    split at e
    · rename_i u v0 h1 h2
      obtain ⟨r', k1, k2⟩ := abin_sim (x := x) (y := y) hE (EV h1) (EV h2) e w
      exact ⟨r', run_value k1, k2⟩
    · cases e
  | unOp op t x =>
    rw [ho] at e
    simp only [apure] at e
    split at e
    · rename_i h1
      obtain ⟨k1, k2⟩ := pureVal_sim (μ := μ) e
      refine ⟨v, run_value ?_, k2⟩
      rw [(EV h1).eq_of_flat rfl]; exact k1 w
    · rename_i h1
      obtain ⟨k1, k2⟩ := pureVal_sim (μ := μ) e
      refine ⟨v, run_value ?_, k2⟩
      rw [(EV h1).eq_of_flat rfl]; exact k1 w
    · cases e
  | convert s d x =>
    rw [ho] at e
    simp only [apure] at e
    split at e
    · rename_i v0 h1
      obtain ⟨r', k1, k2⟩ := aconv_sim hE (EV h1) e w
      exact ⟨r', run_value k1, k2⟩
    · cases e
  | makeInterface t x =>
    rw [ho] at e
    simp only [apure] at e
    split at e
    · cases e
    · rename_i D v0 hne hu h1
      simp only [Option.some.injEq] at e; subst e
      refine ⟨.iface t (a.eval x), run_value ?_, .iface (EV h1)⟩
      unfold Instr.makeInterface
      rw [Sem.run_bind, hE.run_und hu]
      cases D <;> first | rfl | exact (hne _ rfl).elim
    · cases e
  | makeFunc fn p q =>
    rw [ho] at e
    simp only [apure] at e
    split at e
    · rename_i x y h1 h2
      simp only [Option.some.injEq] at e; subst e
      have k1 := evs_sim (a := a) hG hT h1
      have k2 := evs_sim (a := a) hG hT h2
      have m1 : (p.toList.map a.eval).toArray = p.map a.eval := by apply Array.toList_inj.1; simp
      have m2 : (q.toList.map a.eval).toArray = q.map a.eval := by apply Array.toList_inj.1; simp
      rw [m1] at k1; rw [m2] at k2
      exact ⟨.func fn (p.map a.eval) (q.map a.eval), rfl, .func k1.1 k2.1 k1.2 k2.2⟩
    · cases e
  | build t parts =>
    rw [ho] at e
    simp only [apure] at e
    split at e
    · rename_i l h1
      obtain ⟨v', k1, k2⟩ := abuild_sim hE (evParts_sim (a := a) hG hT h1) e
      refine ⟨v', run_value ?_, k2⟩
      have m : (parts.toList.map fun p => (p.1, a.eval p.2)).toArray = parts.map fun (i, x) => (i, a.eval x) := by apply Array.toList_inj.1; simp
      rw [m] at k1
      exact k1 w
    · cases e
  | fieldAddr s x f =>
    rw [ho] at e
    simp only [apure] at e
    split at e
    · rename_i fs ad hu h1
      split at e
      · rename_i fd hf
        split at e
        · rename_i n hn
          simp only [Option.some.injEq] at e; subst e
          have hr := EV h1
          dsimp only
          generalize a.eval x = u at hr ⊢
          cases hr with
          | flat hf => simp [Go.VAbs.flat] at hf
          | @ptr _ ad' hA =>
            refine ⟨.pointer (some (ad'.add fd.offset)), run_value ?_, .ptr (hA.add _)⟩
            simp only [Instr.fieldAt, Sem.run_bind, hE.run_und hu, Result.andThen_ok, hf, Instr.sureAddr, Sem.run_pure, fieldPlace, hE.run_size hn]
            rfl
        · cases e
      · cases e
    · cases e
  | field t x f =>
    rw [ho] at e
    simp only [apure] at e
    split at e
    · rename_i fs cs hu h1
      split at e
      · rename_i fd hf
        have hr := EV h1
        dsimp only
        generalize a.eval x = u at hr ⊢
        cases hr with
        | flat hf => simp [Go.VAbs.flat] at hf
        | @agg _ cs' q1 q2 =>
          obtain ⟨v', k1, k2⟩ := apart_sim hE ⟨q1, q2⟩ e
          refine ⟨v', run_value ?_, k2⟩
          simp only [Instr.field, Sem.run_bind, hE.run_und hu, Result.andThen_ok, hf, asAgg, Sem.run_pure, k1]
      · cases e
    · cases e
  | indexAddr t x i =>
    rw [ho] at e
    simp only [apure] at e
    split at e
    · rename_i u v0 h1 h2
      obtain ⟨v', k1, k2⟩ := aindexAddr_sim hE (EV h1) (EV h2) e
      exact ⟨v', run_value (k1 w), k2⟩
    · cases e
  | index t x i =>
    rw [ho] at e
    simp only [apure] at e
    split at e
    · rename_i u v0 h1 h2
      obtain ⟨v', k1, k2⟩ := aindex_sim hE (EV h1) (EV h2) e
      exact ⟨v', run_value (k1 w), k2⟩
    · cases e
  | slice t x lo hi mx =>
    rw [ho] at e
    simp only [apure] at e
    split at e
    · rename_i u l h m h1 h2 h3 h4
      obtain ⟨v', k1, k2⟩ := aslice_sim hE (EV h1) e
      have : lo.map a.eval = l ∧ hi.map a.eval = h ∧ mx.map a.eval = m := by
        unfold aslice at e
        split at e
        · split at e
          · simp only [Option.map_eq_some_iff] at e
            obtain ⟨r, q, _⟩ := e
            exact abounds_same hG hT h2 h3 h4 q
          · cases e
        · split at e
          · rename_i q1 q2; exact abounds_same hG hT h2 h3 h4 q1
          · cases e
        · split at e
          · rename_i q1 q2; exact abounds_same hG hT h2 h3 h4 q1
          · cases e
        · cases e
      refine ⟨v', run_value ?_, k2⟩
      rw [this.1, this.2.1, this.2.2]
      exact k1 w
    · cases e
  | extract x i =>
    rw [ho] at e
    simp only [apure] at e
    split at e
    · rename_i vs h1
      have hr := EV h1
      dsimp only
      generalize a.eval x = u at hr ⊢
      cases hr with
      | flat hf => simp [Go.VAbs.flat] at hf
      | @tuple _ vs' q1 q2 =>
        obtain ⟨v', k1, k2⟩ := VRels.get ⟨q1, q2⟩ e
        refine ⟨v', run_value ?_, k2⟩
        simp only [Instr.extract, k1, Sem.run_pure]
    · cases e
  | call c =>
    rw [ho] at e
    obtain ⟨callee, args, ts⟩ := c
    simp only [apure] at e
    split at e
    · rename_i v0 hv
      obtain ⟨p, hp, hr⟩ := evs_one (a := a) hv hG hT
      split at e
      · rename_i t ht
        obtain ⟨k1, k2⟩ := alen_sim hE hr e ts ht o.type w
        refine ⟨v, resolve_builtin _ _ _ _ _ _ _ fun consts => ?_, k2⟩
        have : args.map a.eval = #[a.eval p] := by apply Array.toList_inj.1; simp [hp]
        rw [this]
        exact run_value k1
      · cases e
    · rename_i k x j y hv
      obtain ⟨p, q, hp, h1, h2⟩ := evs_two (a := a) hv hG hT
      simp only [Option.some.injEq] at e; subst e
      refine ⟨_, resolve_builtin _ _ _ _ _ _ _ fun consts => ?_, .flat rfl⟩
      have : args.map a.eval = #[.int k x, .int j y] := by apply Array.toList_inj.1; simp [hp, h1.eq_of_flat rfl, h2.eq_of_flat rfl]
      rw [this]
      exact run_value rfl
    · rename_i k x j y hv
      obtain ⟨p, q, hp, h1, h2⟩ := evs_two (a := a) hv hG hT
      simp only [Option.some.injEq] at e; subst e
      refine ⟨_, resolve_builtin _ _ _ _ _ _ _ fun consts => ?_, .flat rfl⟩
      have : args.map a.eval = #[.int k x, .int j y] := by apply Array.toList_inj.1; simp [hp, h1.eq_of_flat rfl, h2.eq_of_flat rfl]
      rw [this]
      exact run_value rfl
    · cases e
  | _ => rw [ho] at e; simp [apure] at e
end
end
end Go.VAbs
