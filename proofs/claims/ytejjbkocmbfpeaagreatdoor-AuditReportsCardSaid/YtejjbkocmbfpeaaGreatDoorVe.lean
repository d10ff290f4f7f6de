/- The same machine laid out for the kernel: what it says, the abstract machine does. -/
import Derived.Test.YtejjbkocmbfpeaaGreatDoorVd
import Derived.Laws.Strings
/-! The abstract machine, part 30: operations on strings, by lists. -/
namespace Go.VAbs
open Go
set_option linter.unusedVariables false
noncomputable section
set_option linter.unusedSimpArgs false

def ltB : List UInt8 → List UInt8 → Bool
  | _, [] => false
  | [], _ :: _ => true
  | a :: x, b :: y => cond (Nat.blt a.toNat b.toNat) true (cond (Nat.beq a.toNat b.toNat) (ltB x y) false)
theorem ltB_eq : ∀ (x y : List UInt8), ltB x y = Op.bytesLess x y
  | [], [] => rfl
  | _ :: _, [] => rfl
  | [], _ :: _ => rfl
  | a :: x, b :: y => by
    simp only [ltB, Op.bytesLess, ltB_eq x y]
    have h1 : Nat.blt a.toNat b.toNat = decide (a < b) := by
      by_cases h : a < b
      · rw [decide_eq_true h, Nat.blt_eq]; exact UInt8.lt_iff_toNat_lt.1 h
      · rw [decide_eq_false h]
        cases hb : Nat.blt a.toNat b.toNat with
        | false => rfl
        | true => exact absurd (UInt8.lt_iff_toNat_lt.2 (Nat.blt_eq.mp hb)) h
    have h2 : Nat.beq a.toNat b.toNat = (a == b) := by
      by_cases h : a = b
      · subst h; rw [Nat.beq_refl]; simp
      · have : Nat.beq a.toNat b.toNat = false := by
          cases hb : Nat.beq a.toNat b.toNat with
          | false => rfl
          | true => exact absurd (UInt8.toNat_inj.1 (Nat.eq_of_beq_eq_true hb)) h
        rw [this]; simp [h]
    rw [h1, h2]
    cases decide (a < b) <;> cases (a == b) <;> simp
/-- Strings: with lists. -/
def strBin (op : BinOp) (a b : ByteArray) : Option Value :=
  match op with
  | .add => cond (decide (((a.size + b.size : Nat) : Int) > IntKind.i64.max)) none (some (.string ⟨⟨a.data.toList ++ b.data.toList⟩⟩))
  | .eql => some (.bool (eqB a.data.toList b.data.toList))
  | .neq => some (.bool !(eqB a.data.toList b.data.toList))
  | .lss => some (.bool (ltB a.data.toList b.data.toList))
  | .leq => some (.bool (ltB a.data.toList b.data.toList || eqB a.data.toList b.data.toList))
  | .gtr => some (.bool !(ltB a.data.toList b.data.toList || eqB a.data.toList b.data.toList))
  | .geq => some (.bool !(ltB a.data.toList b.data.toList))
  | _ => none
theorem strBin_eq (E : Env) (op : BinOp) (t : TypeId) (x y : Operand) (a b : ByteArray) : strBin op a b = abin E op t x y (.string a) (.string b) := by
  have hadd : a ++ b = ⟨⟨a.data.toList ++ b.data.toList⟩⟩ := by
    have := ByteArray.toList_data_append (l := a) (l' := b)
    generalize a ++ b = c at this
    cases c with | mk d => cases d with | mk l => simp at this; rw [this]
  have heq : (a.data.toList == b.data.toList) = eqB a.data.toList b.data.toList := by
    cases h : eqB a.data.toList b.data.toList with
    | true => rw [beq_iff_eq]; exact (eqB_iff _ _).1 h
    | false =>
      rw [beq_eq_false_iff_ne]
      intro he
      rw [(eqB_iff _ _).2 he] at h; cases h
  have hs : ∀ op, binOp op t (.string a) (.string b) = Op.stringOp op a b := by intro op; cases op <;> rfl
  simp only [abin, isLit, Bool.and_self, cond_true, pureVal, hs, Op.stringOp, ByteArray.toList_eq, heq, ← ltB_eq]
  cases op <;> simp only [strBin] <;> first
    | rfl
    | skip
  rw [cond_eq_ite]
  by_cases q : ((a.size + b.size : Nat) : Int) > IntKind.i64.max
  · rw [if_pos q, if_pos (decide_eq_true q)]; rfl
  · rw [if_neg q, if_neg (by simpa using q), hadd]; rfl

end
end Go.VAbs

/-! The abstract machine, part 33: a machine for the kernel: continuations, recursors, temporaries in a tree of products. Part 1: temporaries. -/
namespace Go.VAbs
open Go
set_option linter.unusedVariables false
noncomputable section
set_option linter.unusedSimpArgs false

/-- What comes out at the end. -/
abbrev KR := Option (Value × AS)

structure P16 (α : Type) where
  mk ::
  x0 : α
  x1 : α
  x2 : α
  x3 : α
  x4 : α
  x5 : α
  x6 : α
  x7 : α
  x8 : α
  x9 : α
  x10 : α
  x11 : α
  x12 : α
  x13 : α
  x14 : α
  x15 : α
def P16.nth {α : Type} (p : P16 α) : Nat → α
  | 0 => p.x0
  | 1 => p.x1
  | 2 => p.x2
  | 3 => p.x3
  | 4 => p.x4
  | 5 => p.x5
  | 6 => p.x6
  | 7 => p.x7
  | 8 => p.x8
  | 9 => p.x9
  | 10 => p.x10
  | 11 => p.x11
  | 12 => p.x12
  | 13 => p.x13
  | 14 => p.x14
  | _ => p.x15
def P16.upd {α : Type} (p : P16 α) (v : α) : Nat → P16 α
  | 0 => { p with x0 := v }
  | 1 => { p with x1 := v }
  | 2 => { p with x2 := v }
  | 3 => { p with x3 := v }
  | 4 => { p with x4 := v }
  | 5 => { p with x5 := v }
  | 6 => { p with x6 := v }
  | 7 => { p with x7 := v }
  | 8 => { p with x8 := v }
  | 9 => { p with x9 := v }
  | 10 => { p with x10 := v }
  | 11 => { p with x11 := v }
  | 12 => { p with x12 := v }
  | 13 => { p with x13 := v }
  | 14 => { p with x14 := v }
  | _ => { p with x15 := v }
theorem P16.nth_upd {α : Type} (p : P16 α) (v : α) (d e : Nat) (hd : d < 16) (he : e < 16) : (p.upd v d).nth e = if e = d then v else p.nth e := by
  have h1 : d = 0 ∨ d = 1 ∨ d = 2 ∨ d = 3 ∨ d = 4 ∨ d = 5 ∨ d = 6 ∨ d = 7 ∨ d = 8 ∨ d = 9 ∨ d = 10 ∨ d = 11 ∨ d = 12 ∨ d = 13 ∨ d = 14 ∨ d = 15 := by omega
  have h2 : e = 0 ∨ e = 1 ∨ e = 2 ∨ e = 3 ∨ e = 4 ∨ e = 5 ∨ e = 6 ∨ e = 7 ∨ e = 8 ∨ e = 9 ∨ e = 10 ∨ e = 11 ∨ e = 12 ∨ e = 13 ∨ e = 14 ∨ e = 15 := by omega
  rcases h1 with rfl | rfl | rfl | rfl | rfl | rfl | rfl | rfl | rfl | rfl | rfl | rfl | rfl | rfl | rfl | rfl <;>
    (rcases h2 with rfl | rfl | rfl | rfl | rfl | rfl | rfl | rfl | rfl | rfl | rfl | rfl | rfl | rfl | rfl | rfl <;> rfl)
structure GetF (α : Type) where run : P16 α → α
def getF (α : Type) : Nat → GetF α
  | 0 => ⟨fun p => p.x0⟩
  | 1 => ⟨fun p => p.x1⟩
  | 2 => ⟨fun p => p.x2⟩
  | 3 => ⟨fun p => p.x3⟩
  | 4 => ⟨fun p => p.x4⟩
  | 5 => ⟨fun p => p.x5⟩
  | 6 => ⟨fun p => p.x6⟩
  | 7 => ⟨fun p => p.x7⟩
  | 8 => ⟨fun p => p.x8⟩
  | 9 => ⟨fun p => p.x9⟩
  | 10 => ⟨fun p => p.x10⟩
  | 11 => ⟨fun p => p.x11⟩
  | 12 => ⟨fun p => p.x12⟩
  | 13 => ⟨fun p => p.x13⟩
  | 14 => ⟨fun p => p.x14⟩
  | _ => ⟨fun p => p.x15⟩
theorem getF_eq {α : Type} (d : Nat) (p : P16 α) : (getF α d).run p = p.nth d := by
  unfold getF P16.nth; split <;> rfl
/-- One place of a row: what is there, and the row with another one there. -/
structure FocF (α : Type) where run : P16 α → (α → (α → P16 α) → KR) → KR
def focF (α : Type) : Nat → FocF α
  | 0 => ⟨fun p K => P16.rec (motive := fun _ => KR) (fun y0 y1 y2 y3 y4 y5 y6 y7 y8 y9 y10 y11 y12 y13 y14 y15 => K y0 (fun z => P16.mk z y1 y2 y3 y4 y5 y6 y7 y8 y9 y10 y11 y12 y13 y14 y15)) p⟩
  | 1 => ⟨fun p K => P16.rec (motive := fun _ => KR) (fun y0 y1 y2 y3 y4 y5 y6 y7 y8 y9 y10 y11 y12 y13 y14 y15 => K y1 (fun z => P16.mk y0 z y2 y3 y4 y5 y6 y7 y8 y9 y10 y11 y12 y13 y14 y15)) p⟩
  | 2 => ⟨fun p K => P16.rec (motive := fun _ => KR) (fun y0 y1 y2 y3 y4 y5 y6 y7 y8 y9 y10 y11 y12 y13 y14 y15 => K y2 (fun z => P16.mk y0 y1 z y3 y4 y5 y6 y7 y8 y9 y10 y11 y12 y13 y14 y15)) p⟩
  | 3 => ⟨fun p K => P16.rec (motive := fun _ => KR) (fun y0 y1 y2 y3 y4 y5 y6 y7 y8 y9 y10 y11 y12 y13 y14 y15 => K y3 (fun z => P16.mk y0 y1 y2 z y4 y5 y6 y7 y8 y9 y10 y11 y12 y13 y14 y15)) p⟩
  | 4 => ⟨fun p K => P16.rec (motive := fun _ => KR) (fun y0 y1 y2 y3 y4 y5 y6 y7 y8 y9 y10 y11 y12 y13 y14 y15 => K y4 (fun z => P16.mk y0 y1 y2 y3 z y5 y6 y7 y8 y9 y10 y11 y12 y13 y14 y15)) p⟩
  | 5 => ⟨fun p K => P16.rec (motive := fun _ => KR) (fun y0 y1 y2 y3 y4 y5 y6 y7 y8 y9 y10 y11 y12 y13 y14 y15 => K y5 (fun z => P16.mk y0 y1 y2 y3 y4 z y6 y7 y8 y9 y10 y11 y12 y13 y14 y15)) p⟩
  | 6 => ⟨fun p K => P16.rec (motive := fun _ => KR) (fun y0 y1 y2 y3 y4 y5 y6 y7 y8 y9 y10 y11 y12 y13 y14 y15 => K y6 (fun z => P16.mk y0 y1 y2 y3 y4 y5 z y7 y8 y9 y10 y11 y12 y13 y14 y15)) p⟩
  | 7 => ⟨fun p K => P16.rec (motive := fun _ => KR) (fun y0 y1 y2 y3 y4 y5 y6 y7 y8 y9 y10 y11 y12 y13 y14 y15 => K y7 (fun z => P16.mk y0 y1 y2 y3 y4 y5 y6 z y8 y9 y10 y11 y12 y13 y14 y15)) p⟩
  | 8 => ⟨fun p K => P16.rec (motive := fun _ => KR) (fun y0 y1 y2 y3 y4 y5 y6 y7 y8 y9 y10 y11 y12 y13 y14 y15 => K y8 (fun z => P16.mk y0 y1 y2 y3 y4 y5 y6 y7 z y9 y10 y11 y12 y13 y14 y15)) p⟩
  | 9 => ⟨fun p K => P16.rec (motive := fun _ => KR) (fun y0 y1 y2 y3 y4 y5 y6 y7 y8 y9 y10 y11 y12 y13 y14 y15 => K y9 (fun z => P16.mk y0 y1 y2 y3 y4 y5 y6 y7 y8 z y10 y11 y12 y13 y14 y15)) p⟩
  | 10 => ⟨fun p K => P16.rec (motive := fun _ => KR) (fun y0 y1 y2 y3 y4 y5 y6 y7 y8 y9 y10 y11 y12 y13 y14 y15 => K y10 (fun z => P16.mk y0 y1 y2 y3 y4 y5 y6 y7 y8 y9 z y11 y12 y13 y14 y15)) p⟩
  | 11 => ⟨fun p K => P16.rec (motive := fun _ => KR) (fun y0 y1 y2 y3 y4 y5 y6 y7 y8 y9 y10 y11 y12 y13 y14 y15 => K y11 (fun z => P16.mk y0 y1 y2 y3 y4 y5 y6 y7 y8 y9 y10 z y12 y13 y14 y15)) p⟩
  | 12 => ⟨fun p K => P16.rec (motive := fun _ => KR) (fun y0 y1 y2 y3 y4 y5 y6 y7 y8 y9 y10 y11 y12 y13 y14 y15 => K y12 (fun z => P16.mk y0 y1 y2 y3 y4 y5 y6 y7 y8 y9 y10 y11 z y13 y14 y15)) p⟩
  | 13 => ⟨fun p K => P16.rec (motive := fun _ => KR) (fun y0 y1 y2 y3 y4 y5 y6 y7 y8 y9 y10 y11 y12 y13 y14 y15 => K y13 (fun z => P16.mk y0 y1 y2 y3 y4 y5 y6 y7 y8 y9 y10 y11 y12 z y14 y15)) p⟩
  | 14 => ⟨fun p K => P16.rec (motive := fun _ => KR) (fun y0 y1 y2 y3 y4 y5 y6 y7 y8 y9 y10 y11 y12 y13 y14 y15 => K y14 (fun z => P16.mk y0 y1 y2 y3 y4 y5 y6 y7 y8 y9 y10 y11 y12 y13 z y15)) p⟩
  | _ => ⟨fun p K => P16.rec (motive := fun _ => KR) (fun y0 y1 y2 y3 y4 y5 y6 y7 y8 y9 y10 y11 y12 y13 y14 y15 => K y15 (fun z => P16.mk y0 y1 y2 y3 y4 y5 y6 y7 y8 y9 y10 y11 y12 y13 y14 z)) p⟩
theorem focF_eq {α : Type} (d : Nat) (p : P16 α) (K : α → (α → P16 α) → KR) : (focF α d).run p K = K (p.nth d) (fun z => p.upd z d) := by
  unfold focF P16.nth P16.upd; split <;> rfl
abbrev KT := P16 (P16 Value)
def KT.get (t : KT) (i : Nat) : Value := (t.nth (i / 16)).nth (i % 16)
def KT.put (t : KT) (i : Nat) (v : Value) : KT := t.upd ((t.nth (i / 16)).upd v (i % 16)) (i / 16)
theorem KT.get_put (t : KT) (i j : Nat) (v : Value) (hi : i < 256) (hj : j < 256) : (t.put i v).get j = if j = i then v else t.get j := by
  unfold KT.get KT.put
  rw [P16.nth_upd _ _ _ _ (by omega) (by omega)]
  by_cases h : j / 16 = i / 16
  · rw [if_pos h, P16.nth_upd _ _ _ _ (by omega) (by omega)]
    by_cases h2 : j % 16 = i % 16
    · rw [if_pos h2, if_pos (by omega)]
    · rw [if_neg h2, if_neg (by omega), h]
  · rw [if_neg h, if_neg (by omega)]
structure KGet where run : KT → Value
def kget (i : Nat) : KGet := ⟨fun t => (getF Value (i % 16)).run ((getF (P16 Value) (i / 16)).run t)⟩
theorem kget_eq (i : Nat) (t : KT) : (kget i).run t = t.get i := by simp only [kget, getF_eq]; rfl
structure KPut where run : KT → Value → (KT → KR) → KR
def kput (i : Nat) : KPut := ⟨fun t v K => (focF (P16 Value) (i / 16)).run t fun s re => (focF Value (i % 16)).run s fun _ re2 => K (re (re2 v))⟩
theorem kput_eq (i : Nat) (t : KT) (v : Value) (K : KT → KR) : (kput i).run t v K = K (t.put i v) := by simp only [kput, focF_eq]; rfl
def kt1 : P16 Value := P16.mk undef undef undef undef undef undef undef undef undef undef undef undef undef undef undef undef
def kt0 : KT := P16.mk kt1 kt1 kt1 kt1 kt1 kt1 kt1 kt1 kt1 kt1 kt1 kt1 kt1 kt1 kt1 kt1
theorem kt1_nth (i : Nat) : kt1.nth i = undef := by unfold P16.nth; split <;> rfl
theorem kt0_get (i : Nat) : kt0.get i = undef := by
  have : ∀ j, kt0.nth j = kt1 := by intro j; unfold P16.nth; split <;> rfl
  unfold KT.get; rw [this]; exact kt1_nth _

/-- How temporaries stand to the other machine's. -/
def KRel (N : Nat) (t : KT) (T : ATmps) : Prop := N ≤ T.size ∧ ∀ i, i < 256 → T.get i = t.get i
theorem KRel.put {N : Nat} {t : KT} {T : ATmps} (h : KRel N t T) {d : Nat} (h1 : d < N) (h2 : d < 256) (v : Value) : ∃ T', T.put (some d) v = some T' ∧ KRel N (t.put d v) T' := by
  have hb : Nat.blt d T.size = true := Nat.blt_eq.mpr (Nat.lt_of_lt_of_le h1 h.1)
  refine ⟨{ T with tr := T.tr.set d v }, by simp only [ATmps.put, hb, cond_true], h.1, ?_⟩
  intro i hi
  rw [KT.get_put _ _ _ _ h2 hi]
  unfold ATmps.get
  simp only [Tr.get_set]
  split
  · rfl
  · exact h.2 i hi
end
end Go.VAbs

/-! The machine for the kernel, part 2: looks at values; numbers. -/
namespace Go.VAbs
open Go
set_option linter.unusedVariables false
noncomputable section
set_option linter.unusedSimpArgs false

/-- What a value is, as far as most operations ask. -/
inductive View where
  | int (k : IntKind) (n : Nat)
  | neg (k : IntKind) (n : Nat)
  | str (s : ByteArray)
  | bool (b : Bool)
  | ptr (b o : Nat)
  | slice (a : Option Addr) (n c : Nat)
  | fn (n : Nat) (a b : Array Value)
  | agg (c : Array Value)
  | tup (c : Array Value)
  | other

def View.val : View → Option Value
  | .int k n => some (.int k (Int.ofNat n))
  | .neg k n => some (.int k (Int.negSucc n))
  | .str s => some (.string s)
  | .bool b => some (.bool b)
  | .ptr b o => some (.pointer (some ⟨b, o, none⟩))
  | .slice a n c => some (.slice a n c)
  | .fn n a b => some (.func (.func n) a b)
  | .agg c => some (.agg c)
  | .tup c => some (.tuple c)
  | .other => none

def view (v : Value) : View :=
  Value.rec (motive_1 := fun _ => View) (motive_2 := fun _ => Unit) (motive_3 := fun _ => Unit)
    View.bool
    (fun k n => Int.rec (motive := fun _ => View) (fun m => .int k m) (fun m => .neg k m) n)
    (fun _ _ => .other) (fun _ _ _ => .other)
    View.str
    (fun p => Option.rec (motive := fun _ => View) .other (fun a => Addr.rec (motive := fun _ => View) (fun b o s => Option.rec (motive := fun _ => View) (.ptr b o) (fun _ => .other) s) a) p)
    View.slice (fun _ => .other) (fun _ => .other)
    (fun f a b _ _ => Fn.rec (motive := fun _ => View) (fun n => .fn n a b) (fun _ => .other) (fun _ _ => .other) (fun _ _ _ _ => .other) (fun _ => .other) f)
    .other (fun _ _ _ => .other) .other (fun c _ => .agg c) (fun c _ => .tup c) (fun _ _ => ()) () (fun _ _ _ _ => ()) v

theorem view_val {v u : Value} (h : (view v).val = some u) : v = u := by
  cases v with
  | bool b => exact Option.some.inj h
  | int k n => cases n <;> exact Option.some.inj h
  | string s => exact Option.some.inj h
  | slice a n c => exact Option.some.inj h
  | agg c => exact Option.some.inj h
  | tuple c => exact Option.some.inj h
  | pointer p =>
    cases p with
    | none => cases h
    | some a =>
      obtain ⟨b, o, s⟩ := a
      cases s with
      | none => exact Option.some.inj h
      | some _ => cases h
  | func f a b => cases f <;> first | exact Option.some.inj h | cases h
  | float _ _ => cases h
  | complex _ _ _ => cases h
  | map _ => cases h
  | chan _ => cases h
  | nilFunc => cases h
  | iface _ _ => cases h
  | nilIface => cases h

/-! ### Looks, with what to do -/
def onPtr (v : Value) (f : Nat → Nat → KR) : KR := View.rec (motive := fun _ => KR) (fun _ _ => none) (fun _ _ => none) (fun _ => none) (fun _ => none) f (fun _ _ _ => none) (fun _ _ _ => none) (fun _ => none) (fun _ => none) none (view v)
theorem onPtr_ok {v : Value} {f : Nat → Nat → KR} {r : Value × AS} (h : onPtr v f = some r) : ∃ b o, v = .pointer (some ⟨b, o, none⟩) ∧ f b o = some r := by
  unfold onPtr at h
  generalize hv : view v = w at h
  cases w <;> first | cases h; done | exact ⟨_, _, view_val (by rw [hv]; rfl), h⟩
def onBool (v : Value) (x y : KR) : KR := View.rec (motive := fun _ => KR) (fun _ _ => none) (fun _ _ => none) (fun _ => none) (fun b => Bool.rec (motive := fun _ => KR) y x b) (fun _ _ => none) (fun _ _ _ => none) (fun _ _ _ => none) (fun _ => none) (fun _ => none) none (view v)
theorem onBool_ok {v : Value} {x y : KR} {r : Value × AS} (h : onBool v x y = some r) : (v = .bool true ∧ x = some r) ∨ (v = .bool false ∧ y = some r) := by
  unfold onBool at h
  generalize hv : view v = w at h
  cases w <;> first | (cases h; done) | skip
  rename_i b
  cases b
  · exact .inr ⟨view_val (by rw [hv]; rfl), h⟩
  · exact .inl ⟨view_val (by rw [hv]; rfl), h⟩
/-- A truth value, else: as if false was wanted and true was not. -/
def onGuard (v : Value) (w : Bool) (x y : KR) : KR := View.rec (motive := fun _ => KR) (fun _ _ => y) (fun _ _ => y) (fun _ => y) (fun b => Bool.rec (motive := fun _ => KR) (Bool.rec (motive := fun _ => KR) x y w) (Bool.rec (motive := fun _ => KR) y x w) b) (fun _ _ => y) (fun _ _ _ => y) (fun _ _ _ => y) (fun _ => y) (fun _ => y) y (view v)
theorem onGuard_eq (v : Value) (w : Bool) (x y : KR) : onGuard v w x y = (match v with | .bool b => cond (b == w) x y | _ => y) := by
  cases v with
  | bool b => cases b <;> cases w <;> rfl
  | int k n => cases n <;> rfl
  | pointer p =>
    cases p with
    | none => rfl
    | some a => obtain ⟨b, o, s⟩ := a; cases s <;> rfl
  | func f a b => cases f <;> rfl
  | _ => rfl
def onFn (v : Value) (f : Nat → Array Value → Array Value → KR) : KR := View.rec (motive := fun _ => KR) (fun _ _ => none) (fun _ _ => none) (fun _ => none) (fun _ => none) (fun _ _ => none) (fun _ _ _ => none) f (fun _ => none) (fun _ => none) none (view v)
theorem onFn_ok {v : Value} {f : Nat → Array Value → Array Value → KR} {r : Value × AS} (h : onFn v f = some r) : ∃ n a b, v = .func (.func n) a b ∧ f n a b = some r := by
  unfold onFn at h
  generalize hv : view v = w at h
  cases w <;> first | (cases h; done) | exact ⟨_, _, _, view_val (by rw [hv]; rfl), h⟩
def onAgg (v : Value) (f : Array Value → KR) : KR := View.rec (motive := fun _ => KR) (fun _ _ => none) (fun _ _ => none) (fun _ => none) (fun _ => none) (fun _ _ => none) (fun _ _ _ => none) (fun _ _ _ => none) f (fun _ => none) none (view v)
theorem onAgg_ok {v : Value} {f : Array Value → KR} {r : Value × AS} (h : onAgg v f = some r) : ∃ c, v = .agg c ∧ f c = some r := by
  unfold onAgg at h
  generalize hv : view v = w at h
  cases w <;> first | (cases h; done) | exact ⟨_, view_val (by rw [hv]; rfl), h⟩
def onTup (v : Value) (f : Array Value → KR) : KR := View.rec (motive := fun _ => KR) (fun _ _ => none) (fun _ _ => none) (fun _ => none) (fun _ => none) (fun _ _ => none) (fun _ _ _ => none) (fun _ _ _ => none) (fun _ => none) f none (view v)
theorem onTup_ok {v : Value} {f : Array Value → KR} {r : Value × AS} (h : onTup v f = some r) : ∃ c, v = .tuple c ∧ f c = some r := by
  unfold onTup at h
  generalize hv : view v = w at h
  cases w <;> first | (cases h; done) | exact ⟨_, view_val (by rw [hv]; rfl), h⟩
/-- An option, with what to do. -/
def onSome {α : Type} (o : Option α) (f : α → KR) : KR := Option.rec (motive := fun _ => KR) none f o
theorem onSome_ok {α : Type} {o : Option α} {f : α → KR} {r : Value × AS} (h : onSome o f = some r) : ∃ a, o = some a ∧ f a = some r := by
  cases o with
  | none => cases h
  | some a => exact ⟨a, rfl, h⟩
def onTrue (b : Bool) (x : KR) : KR := Bool.rec (motive := fun _ => KR) none x b
theorem onTrue_ok {b : Bool} {x : KR} {r : Value × AS} (h : onTrue b x = some r) : b = true ∧ x = some r := by
  cases b with
  | false => cases h
  | true => exact ⟨rfl, h⟩

end
end Go.VAbs

/-! The machine for the kernel, part 3: numbers. -/
namespace Go.VAbs
open Go
set_option linter.unusedVariables false
noncomputable section
set_option linter.unusedSimpArgs false

/-! ### Numbers -/
/-- Below this, a number that is not negative is what it is. -/
def ktop (k : IntKind) : Nat := IntKind.rec (motive := fun _ => Nat) 128 32768 2147483648 9223372036854775808 256 65536 4294967296 18446744073709551616 k
def kbits (k : IntKind) : Nat := IntKind.rec (motive := fun _ => Nat) 8 16 32 64 8 16 32 64 k
def knum (k : IntKind) : Nat := IntKind.rec (motive := fun _ => Nat) 0 1 2 3 4 5 6 7 k
def ksig (k : IntKind) : Bool := IntKind.rec (motive := fun _ => Bool) true true true true false false false false k
theorem kbits_eq (k : IntKind) : kbits k = k.bits := by cases k <;> rfl
theorem ksig_eq (k : IntKind) : ksig k = k.signed := by cases k <;> rfl
theorem knum_inj {k j : IntKind} (h : Nat.beq (knum k) (knum j) = true) : k = j := by
  have := Nat.eq_of_beq_eq_true h
  cases k <;> cases j <;> first | rfl | (exact absurd this (by decide))
theorem wrap_low {k : IntKind} {n : Nat} (h1 : (n : Int) < (2 ^ k.bits : Int)) (h2 : k.signed = true → (n : Int) < (2 ^ (k.bits - 1) : Int)) : k.wrap (Int.ofNat n) = Int.ofNat n := by
  have hm : (Int.ofNat n : Int) % (2 ^ k.bits : Int) = Int.ofNat n := Int.emod_eq_of_lt (Int.natCast_nonneg n) h1
  unfold IntKind.wrap
  simp only [hm]
  rw [if_neg]
  intro hc
  rw [Bool.and_eq_true, decide_eq_true_eq] at hc
  have := h2 hc.1
  have h3 : (Int.ofNat n : Int) = (n : Int) := rfl
  omega
theorem ktop_wrap {k : IntKind} {n : Nat} (h : n < ktop k) : k.wrap (Int.ofNat n) = Int.ofNat n := by
  refine wrap_low ?_ ?_
  · cases k <;> (simp only [ktop] at h; show (n : Int) < _; first | exact Int.lt_of_lt_of_le (Int.ofNat_lt.2 h) (by decide))
  · cases k <;> (simp only [ktop] at h; intro hs; first | exact Int.lt_of_lt_of_le (Int.ofNat_lt.2 h) (by decide) | cases hs)
theorem ktop_bits {k : IntKind} {n : Nat} (h : n < ktop k) : n < 2 ^ k.bits := by
  cases k <;> (simp only [ktop] at h; exact Nat.lt_of_lt_of_le h (by decide))
/-- Cut to its kind. -/
def kwrapN (k : IntKind) (n : Nat) : Int := Bool.rec (motive := fun _ => Int) (Int.ofNat (Nat.mod n (Nat.pow 2 (kbits k)))) (Bool.rec (motive := fun _ => Int) (k.wrap (Int.ofNat n)) (Int.ofNat n) (Nat.ble (Nat.succ n) (ktop k))) (ksig k)
theorem kwrapN_eq (k : IntKind) (n : Nat) : kwrapN k n = k.wrap (Int.ofNat n) := by
  unfold kwrapN
  cases hs : ksig k with
  | true =>
    cases hb : Nat.ble (Nat.succ n) (ktop k) with
    | true => exact (ktop_wrap (Nat.le_of_ble_eq_true hb)).symm
    | false => rfl
  | false =>
    show (Int.ofNat (n % 2 ^ kbits k) : Int) = _
    rw [ksig_eq] at hs
    rw [kbits_eq]
    unfold IntKind.wrap
    simp only [hs, Bool.false_and, Bool.false_eq_true, if_false]
    show ((n % 2 ^ k.bits : Nat) : Int) = (n : Int) % _
    rw [Int.natCast_emod, Int.natCast_pow]; rfl
/-- The difference, as a number with a sign. -/
def ksub (a b : Nat) : Int := Bool.rec (motive := fun _ => Int) (Int.negSucc (Nat.sub (Nat.sub b a) 1)) (Int.ofNat (Nat.sub a b)) (Nat.ble b a)
theorem ksub_eq (a b : Nat) : ksub a b = (Int.ofNat a - Int.ofNat b : Int) := by
  unfold ksub
  cases hb : Nat.ble b a with
  | true =>
    have := Nat.le_of_ble_eq_true hb
    show ((a - b : Nat) : Int) = (a : Int) - (b : Int)
    omega
  | false =>
    have : ¬ b ≤ a := fun h => by rw [Nat.ble_eq_true_of_le h] at hb; cases hb
    show Int.negSucc (b - a - 1) = (a : Int) - (b : Int)
    rw [Int.negSucc_eq]; omega
def kwrapZ (k : IntKind) (z : Int) : Int := Int.rec (motive := fun _ => Int) (fun n => kwrapN k n) (fun n => k.wrap (Int.negSucc n)) z
theorem kwrapZ_eq (k : IntKind) (z : Int) : kwrapZ k z = k.wrap z := by
  cases z with
  | ofNat n => exact kwrapN_eq k n
  | negSucc n => rfl

/-- Two numbers that are not negative. -/
structure NBin where run : IntKind → Nat → Nat → KR → (Value → KR) → KR
def nbin (op : BinOp) : NBin := match op with
  | .add => ⟨fun k a b _ K => K (.int k (kwrapN k (Nat.add a b)))⟩
  | .sub => ⟨fun k a b _ K => K (.int k (kwrapZ k (ksub a b)))⟩
  | .mul => ⟨fun k a b _ K => K (.int k (kwrapN k (Nat.mul a b)))⟩
  | .quo => ⟨fun k a b d K => Bool.rec (motive := fun _ => KR) (K (.int k (kwrapN k (Nat.div a b)))) d (Nat.beq b 0)⟩
  | .rem => ⟨fun k a b d K => Bool.rec (motive := fun _ => KR) (K (.int k (Int.ofNat (Nat.mod a b)))) d (Nat.beq b 0)⟩
  | .and => ⟨fun k a b d K => Bool.rec (motive := fun _ => KR) d (Bool.rec (motive := fun _ => KR) d (K (.int k (kwrapN k (Nat.land a b)))) (Nat.ble (Nat.succ b) (ktop k))) (Nat.ble (Nat.succ a) (ktop k))⟩
  | .or => ⟨fun k a b d K => Bool.rec (motive := fun _ => KR) d (Bool.rec (motive := fun _ => KR) d (K (.int k (kwrapN k (Nat.lor a b)))) (Nat.ble (Nat.succ b) (ktop k))) (Nat.ble (Nat.succ a) (ktop k))⟩
  | .xor => ⟨fun k a b d K => Bool.rec (motive := fun _ => KR) d (Bool.rec (motive := fun _ => KR) d (K (.int k (kwrapN k (Nat.xor a b)))) (Nat.ble (Nat.succ b) (ktop k))) (Nat.ble (Nat.succ a) (ktop k))⟩
  | .eql => ⟨fun k a b _ K => K (.bool (Nat.beq a b))⟩
  | .neq => ⟨fun k a b _ K => K (.bool (Bool.rec (motive := fun _ => Bool) true false (Nat.beq a b)))⟩
  | .lss => ⟨fun k a b _ K => K (.bool (Nat.ble (Nat.succ a) b))⟩
  | .leq => ⟨fun k a b _ K => K (.bool (Nat.ble a b))⟩
  | .gtr => ⟨fun k a b _ K => K (.bool (Nat.ble (Nat.succ b) a))⟩
  | .geq => ⟨fun k a b _ K => K (.bool (Nat.ble b a))⟩
  | _ => ⟨fun _ _ _ d _ => d⟩
theorem bits_land {k : IntKind} {a b : Nat} (ha : a < ktop k) (hb : b < ktop k) : (BitVec.ofInt k.bits (Int.ofNat a) &&& BitVec.ofInt k.bits (Int.ofNat b)).toNat = Nat.land a b := by
  have e : ∀ n : Nat, BitVec.ofInt k.bits (Int.ofNat n) = BitVec.ofNat k.bits n := fun n => BitVec.ofInt_natCast k.bits n
  rw [e, e, BitVec.toNat_and, BitVec.toNat_ofNat, BitVec.toNat_ofNat, Nat.mod_eq_of_lt (ktop_bits ha), Nat.mod_eq_of_lt (ktop_bits hb)]; rfl
theorem bits_lor {k : IntKind} {a b : Nat} (ha : a < ktop k) (hb : b < ktop k) : (BitVec.ofInt k.bits (Int.ofNat a) ||| BitVec.ofInt k.bits (Int.ofNat b)).toNat = Nat.lor a b := by
  have e : ∀ n : Nat, BitVec.ofInt k.bits (Int.ofNat n) = BitVec.ofNat k.bits n := fun n => BitVec.ofInt_natCast k.bits n
  rw [e, e, BitVec.toNat_or, BitVec.toNat_ofNat, BitVec.toNat_ofNat, Nat.mod_eq_of_lt (ktop_bits ha), Nat.mod_eq_of_lt (ktop_bits hb)]; rfl
theorem bits_lxor {k : IntKind} {a b : Nat} (ha : a < ktop k) (hb : b < ktop k) : (BitVec.ofInt k.bits (Int.ofNat a) ^^^ BitVec.ofInt k.bits (Int.ofNat b)).toNat = Nat.xor a b := by
  have e : ∀ n : Nat, BitVec.ofInt k.bits (Int.ofNat n) = BitVec.ofNat k.bits n := fun n => BitVec.ofInt_natCast k.bits n
  rw [e, e, BitVec.toNat_xor, BitVec.toNat_ofNat, BitVec.toNat_ofNat, Nat.mod_eq_of_lt (ktop_bits ha), Nat.mod_eq_of_lt (ktop_bits hb)]; rfl
theorem onNat_rec {b : Bool} {x y : KR} {r : Value × AS} (h : Bool.rec (motive := fun _ => KR) x y b = some r) : (b = false ∧ x = some r) ∨ (b = true ∧ y = some r) := by
  cases b
  · exact .inl ⟨rfl, h⟩
  · exact .inr ⟨rfl, h⟩
theorem beq_iff' (a b : Nat) : Nat.beq a b = decide ((Int.ofNat a : Int) = Int.ofNat b) := by
  cases h : Nat.beq a b with
  | true => rw [Nat.eq_of_beq_eq_true h]; simp
  | false =>
    symm; rw [decide_eq_false_iff_not]
    intro e
    have : a = b := Int.ofNat.inj e
    rw [this, Nat.beq_refl] at h; cases h
theorem ble_iff' (a b : Nat) : Nat.ble a b = decide ((Int.ofNat a : Int) ≤ Int.ofNat b) := by
  cases h : Nat.ble a b with
  | true => symm; rw [decide_eq_true_iff]; exact Int.ofNat_le.2 (Nat.le_of_ble_eq_true h)
  | false =>
    symm; rw [decide_eq_false_iff_not]
    intro e
    rw [Nat.ble_eq_true_of_le (Int.ofNat_le.1 e)] at h; cases h
theorem nbin_ok {P : Program} {op : BinOp} {t : TypeId} {k : IntKind} {a b : Nat} {d : KR} {K : Value → KR} {r : Value × AS} (h : (nbin op).run k a b d K = some r) :
    d = some r ∨ ∃ v, K v = some r ∧ pureVal P (binOp op t (.int k (Int.ofNat a)) (.int k (Int.ofNat b))) = some v := by
  have pv : ∀ v, closed v = true → pureVal P (Sem.pure v) = some v := by intro v hv; simp only [pureVal, pureRun, hv, cond_true]
  have low : ∀ {n : Nat}, Nat.ble (Nat.succ n) (ktop k) = true → n < ktop k := fun h => Nat.le_of_ble_eq_true h
  cases op <;> simp only [nbin] at h <;> first
    | exact .inl h
    | skip
  case add => exact .inr ⟨_, h, by rw [kwrapN_eq]; simp only [binOp]; rw [if_neg (by simp)]; exact pv _ rfl⟩
  case sub => exact .inr ⟨_, h, by rw [kwrapZ_eq, ksub_eq]; simp only [binOp]; rw [if_neg (by simp)]; exact pv _ rfl⟩
  case mul => exact .inr ⟨_, h, by rw [kwrapN_eq]; simp only [binOp]; rw [if_neg (by simp)]; exact pv _ rfl⟩
  case quo =>
    rcases onNat_rec h with ⟨hb, h⟩ | ⟨_, h⟩
    · refine .inr ⟨_, h, ?_⟩
      have hne : (Int.ofNat b : Int) ≠ 0 := fun e => by
        have : b = 0 := Int.ofNat.inj e
        subst this; cases hb
      rw [kwrapN_eq]; simp only [binOp]; rw [if_neg (by simp)]; simp only [Op.intDiv]; rw [if_neg hne]; exact pv _ rfl
    · exact .inl h
  case rem =>
    rcases onNat_rec h with ⟨hb, h⟩ | ⟨_, h⟩
    · refine .inr ⟨_, h, ?_⟩
      have hne : (Int.ofNat b : Int) ≠ 0 := fun e => by
        have : b = 0 := Int.ofNat.inj e
        subst this; cases hb
      simp only [binOp]; rw [if_neg (by simp)]; simp only [Op.intDiv]; rw [if_neg hne]; exact pv _ rfl
    · exact .inl h
  case and =>
    rcases onNat_rec h with ⟨_, h⟩ | ⟨ha, h⟩
    · exact .inl h
    rcases onNat_rec h with ⟨_, h⟩ | ⟨hb, h⟩
    · exact .inl h
    refine .inr ⟨_, h, ?_⟩
    rw [kwrapN_eq]; simp only [binOp]; rw [if_neg (by simp)]; simp only [Op.intBits]; rw [bits_land (low ha) (low hb)]; exact pv _ rfl
  case or =>
    rcases onNat_rec h with ⟨_, h⟩ | ⟨ha, h⟩
    · exact .inl h
    rcases onNat_rec h with ⟨_, h⟩ | ⟨hb, h⟩
    · exact .inl h
    refine .inr ⟨_, h, ?_⟩
    rw [kwrapN_eq]; simp only [binOp]; rw [if_neg (by simp)]; simp only [Op.intBits]; rw [bits_lor (low ha) (low hb)]; exact pv _ rfl
  case xor =>
    rcases onNat_rec h with ⟨_, h⟩ | ⟨ha, h⟩
    · exact .inl h
    rcases onNat_rec h with ⟨_, h⟩ | ⟨hb, h⟩
    · exact .inl h
    refine .inr ⟨_, h, ?_⟩
    rw [kwrapN_eq]; simp only [binOp]; rw [if_neg (by simp)]; simp only [Op.intBits]; rw [bits_lxor (low ha) (low hb)]; exact pv _ rfl
  case eql => exact .inr ⟨_, h, by rw [beq_iff']; simp only [binOp]; rw [if_neg (by simp)]; exact pv _ rfl⟩
  case neq =>
    refine .inr ⟨_, h, ?_⟩
    have : (Bool.rec (motive := fun _ => Bool) true false (Nat.beq a b)) = ((Int.ofNat a : Int) != Int.ofNat b) := by
      rw [beq_iff']; simp only [bne]
      show _ = !(decide _)
      cases decide ((Int.ofNat a : Int) = Int.ofNat b) <;> rfl
    rw [this]; simp only [binOp]; rw [if_neg (by simp)]; exact pv _ rfl
  case lss => exact .inr ⟨_, h, by rw [ble_iff']; simp only [binOp]; rw [if_neg (by simp)]; exact pv _ rfl⟩
  case leq => exact .inr ⟨_, h, by rw [ble_iff']; simp only [binOp]; rw [if_neg (by simp)]; exact pv _ rfl⟩
  case gtr => exact .inr ⟨_, h, by rw [ble_iff']; simp only [binOp]; rw [if_neg (by simp)]; exact pv _ rfl⟩
  case geq => exact .inr ⟨_, h, by rw [ble_iff']; simp only [binOp]; rw [if_neg (by simp)]; exact pv _ rfl⟩
end
end Go.VAbs

/-! The machine for the kernel, part 4: operands, memory. -/
namespace Go.VAbs
open Go
set_option linter.unusedVariables false
noncomputable section
set_option linter.unusedSimpArgs false

/-- A number that is not negative; else d. -/
def onNum (v : Value) (f : IntKind → Nat → KR) (d : KR) : KR := View.rec (motive := fun _ => KR) f (fun _ _ => d) (fun _ => d) (fun _ => d) (fun _ _ => d) (fun _ _ _ => d) (fun _ _ _ => d) (fun _ => d) (fun _ => d) d (view v)
theorem onNum_ok {v : Value} {f : IntKind → Nat → KR} {d : KR} {r : Value × AS} (h : onNum v f d = some r) : d = some r ∨ ∃ k n, v = .int k (Int.ofNat n) ∧ f k n = some r := by
  unfold onNum at h
  generalize hv : view v = w at h
  cases w <;> first | exact .inl h | exact .inr ⟨_, _, view_val (by rw [hv]; rfl), h⟩
def onStr (v : Value) (f : ByteArray → KR) (d : KR) : KR := View.rec (motive := fun _ => KR) (fun _ _ => d) (fun _ _ => d) f (fun _ => d) (fun _ _ => d) (fun _ _ _ => d) (fun _ _ _ => d) (fun _ => d) (fun _ => d) d (view v)
theorem onStr_ok {v : Value} {f : ByteArray → KR} {d : KR} {r : Value × AS} (h : onStr v f d = some r) : d = some r ∨ ∃ s, v = .string s ∧ f s = some r := by
  unfold onStr at h
  generalize hv : view v = w at h
  cases w <;> first | exact .inl h | exact .inr ⟨_, view_val (by rw [hv]; rfl), h⟩
def onNumStr (v : Value) (f : IntKind → Nat → KR) (g : ByteArray → KR) (d : KR) : KR := View.rec (motive := fun _ => KR) f (fun _ _ => d) g (fun _ => d) (fun _ _ => d) (fun _ _ _ => d) (fun _ _ _ => d) (fun _ => d) (fun _ => d) d (view v)
theorem onNumStr_ok {v : Value} {f : IntKind → Nat → KR} {g : ByteArray → KR} {d : KR} {r : Value × AS} (h : onNumStr v f g d = some r) :
    d = some r ∨ (∃ k n, v = .int k (Int.ofNat n) ∧ f k n = some r) ∨ ∃ s, v = .string s ∧ g s = some r := by
  unfold onNumStr at h
  generalize hv : view v = w at h
  cases w <;> first | exact .inl h | exact .inr (.inl ⟨_, _, view_val (by rw [hv]; rfl), h⟩) | exact .inr (.inr ⟨_, view_val (by rw [hv]; rfl), h⟩)
/-- A slice at a place; else d. -/
def onSlice (v : Value) (f : Option Addr → Nat → Nat → KR) (d : KR) : KR := View.rec (motive := fun _ => KR) (fun _ _ => d) (fun _ _ => d) (fun _ => d) (fun _ => d) (fun _ _ => d) f (fun _ _ _ => d) (fun _ => d) (fun _ => d) d (view v)
theorem onSlice_ok {v : Value} {f : Option Addr → Nat → Nat → KR} {d : KR} {r : Value × AS} (h : onSlice v f d = some r) : d = some r ∨ ∃ a n c, v = .slice a n c ∧ f a n c = some r := by
  unfold onSlice at h
  generalize hv : view v = w at h
  cases w <;> first | exact .inl h | exact .inr ⟨_, _, _, view_val (by rw [hv]; rfl), h⟩
def onPtrD (v : Value) (f : Nat → Nat → KR) (d : KR) : KR := View.rec (motive := fun _ => KR) (fun _ _ => d) (fun _ _ => d) (fun _ => d) (fun _ => d) f (fun _ _ _ => d) (fun _ _ _ => d) (fun _ => d) (fun _ => d) d (view v)
theorem onPtrD_ok {v : Value} {f : Nat → Nat → KR} {d : KR} {r : Value × AS} (h : onPtrD v f d = some r) : d = some r ∨ ∃ b o, v = .pointer (some ⟨b, o, none⟩) ∧ f b o = some r := by
  unfold onPtrD at h
  generalize hv : view v = w at h
  cases w <;> first | exact .inl h | exact .inr ⟨_, _, view_val (by rw [hv]; rfl), h⟩
def onBoolD (v : Value) (f : Bool → KR) (d : KR) : KR := View.rec (motive := fun _ => KR) (fun _ _ => d) (fun _ _ => d) (fun _ => d) f (fun _ _ => d) (fun _ _ _ => d) (fun _ _ _ => d) (fun _ => d) (fun _ => d) d (view v)
theorem onBoolD_ok {v : Value} {f : Bool → KR} {d : KR} {r : Value × AS} (h : onBoolD v f d = some r) : d = some r ∨ ∃ b, v = .bool b ∧ f b = some r := by
  unfold onBoolD at h
  generalize hv : view v = w at h
  cases w <;> first | exact .inl h | exact .inr ⟨_, view_val (by rw [hv]; rfl), h⟩
def onAddr (a : Option Addr) (f : Nat → Nat → KR) : KR := Option.rec (motive := fun _ => KR) none (fun a => Addr.rec (motive := fun _ => KR) (fun b o s => Option.rec (motive := fun _ => KR) (f b o) (fun _ => none) s) a) a
theorem onAddr_ok {a : Option Addr} {f : Nat → Nat → KR} {r : Value × AS} (h : onAddr a f = some r) : ∃ b o, a = some ⟨b, o, none⟩ ∧ f b o = some r := by
  cases a with
  | none => cases h
  | some a =>
    obtain ⟨b, o, s⟩ := a
    cases s with
    | none => exact ⟨_, _, rfl, h⟩
    | some _ => cases h

/-! ### Operands -/
structure KEv where run : KT → Value
def kev (E : Env) : Operand → Option KEv
  | .tmp t => cond (Nat.blt t 256) (some ⟨fun T => (kget t).run T⟩) none
  | .const v => cond (closed v) (some ⟨fun _ => v⟩) none
  | .global g => match E.glob g with
    | some b => some ⟨fun _ => .pointer (some ⟨b, 0, none⟩)⟩
    | none => none
  | .func f => some ⟨fun _ => .func (.func f) #[] #[]⟩
theorem kev_ok {E : Env} {N : Nat} {t : KT} {T : ATmps} (hT : KRel N t T) {x : Operand} {g : KEv} (h : kev E x = some g) : ev E T x = some (g.run t) := by
  cases x with
  | tmp i =>
    simp only [kev, cond_eq_ite] at h
    split at h
    · rename_i hb
      cases h
      simp only [ev, kget_eq, hT.2 i (Nat.blt_eq.mp hb)]
    · cases h
  | const v => simp only [kev] at h; cases hc : closed v <;> rw [hc] at h <;> cases h; simp only [ev, hc, cond_true]
  | global gl => simp only [kev] at h; cases hg : E.glob gl <;> rw [hg] at h <;> cases h; simp only [ev, hg, Option.map_some]
  | func f => simp only [kev, Option.some.injEq] at h; subst h; rfl
structure KEvs where run : KT → List Value
def kevs (E : Env) : List Operand → Option KEvs
  | [] => some ⟨fun _ => []⟩
  | x :: r => match kev E x, kevs E r with
    | some g, some l => some ⟨fun T => g.run T :: l.run T⟩
    | _, _ => none
theorem kevs_ok {E : Env} {N : Nat} {t : KT} {T : ATmps} (hT : KRel N t T) : ∀ {l : List Operand} {g : KEvs}, kevs E l = some g → evs E T l = some (g.run t)
  | [], g, h => by cases h; rfl
  | x :: r, g, h => by
    unfold kevs at h
    split at h
    · rename_i g1 g2 h1 h2
      cases h
      simp only [evs, kev_ok hT h1, kevs_ok hT h2]
    · cases h

/-! ### Memory -/
def _root_.Go.VAbs.Tr.getR {α : Type} (t : Tr α) : Nat → Option α :=
  Tr.rec (motive := fun _ => Nat → Option α) (fun _ => none)
    (fun _ v _ il ir k => Bool.rec (motive := fun _ => Option α) (Bool.rec (motive := fun _ => Option α) (ir (Nat.div (Nat.sub k 1) 2)) (il (Nat.div (Nat.sub k 1) 2)) (Nat.beq (Nat.mod (Nat.sub k 1) 2) 0)) v (Nat.beq k 0)) (fun h k => h k) t
theorem Tr.getR_eq {α : Type} : ∀ (t : Tr α) (k : Nat), t.getR k = t.get k
  | .e, k => by simp only [Tr.get]; rfl
  | .n l v r, 0 => rfl
  | .n l v r, k + 1 => by
    show Bool.rec (motive := fun _ => Option α) (r.getR (k / 2)) (l.getR (k / 2)) (Nat.beq (k % 2) 0) = _
    simp only [Tr.get, Tr.getR_eq l, Tr.getR_eq r]
    cases Nat.beq (k % 2) 0 <;> rfl
  | .b h, k => by simp only [Tr.get]; rfl
def onCells (o : Option AObj) (f : List Value → Bool → Option Nat → KR) : KR := Option.rec (motive := fun _ => KR) none (fun x => AObj.rec (motive := fun _ => KR) f (fun _ _ => none) (fun _ _ => none) (fun _ _ _ _ => none) none x) o
theorem onCells_ok {o : Option AObj} {f : List Value → Bool → Option Nat → KR} {r : Value × AS} (h : onCells o f = some r) : ∃ c ro gr, o = some (.cells c ro gr) ∧ f c ro gr = some r := by
  cases o with
  | none => cases h
  | some x => cases x <;> first | (cases h; done) | exact ⟨_, _, _, rfl, h⟩
/-- The k-th of a list. -/
def kth {α : Type} (k : Nat) : List α → (α → KR) → KR :=
  Nat.rec (motive := fun _ => List α → (α → KR) → KR) (fun c K => List.rec (motive := fun _ => KR) none (fun v _ _ => K v) c) (fun _ ih c K => List.rec (motive := fun _ => KR) none (fun _ r _ => ih r K) c) k
theorem kth_ok {α : Type} : ∀ {k : Nat} {c : List α} {K : α → KR} {r : Value × AS}, kth k c K = some r → ∃ v, c[k]? = some v ∧ K v = some r
  | 0, [], K, r, h => by cases h
  | 0, v :: c, K, r, h => ⟨v, rfl, h⟩
  | k + 1, [], K, r, h => by cases h
  | k + 1, v :: c, K, r, h => by
    obtain ⟨u, h1, h2⟩ := kth_ok (k := k) (c := c) h
    exact ⟨u, by simpa using h1, h2⟩
def kdrop (k : Nat) : List Value → (List Value → KR) → KR :=
  Nat.rec (motive := fun _ => List Value → (List Value → KR) → KR) (fun c K => K c) (fun _ ih c K => List.rec (motive := fun _ => KR) none (fun _ r _ => ih r K) c) k
def ktake (n : Nat) : List Value → (List Value → KR) → KR :=
  Nat.rec (motive := fun _ => List Value → (List Value → KR) → KR) (fun _ K => K []) (fun _ ih c K => List.rec (motive := fun _ => KR) none (fun v r _ => ih r (fun l => K (v :: l))) c) n
theorem ktake_ok : ∀ {n : Nat} {c : List Value} {K : List Value → KR} {r : Value × AS}, ktake n c K = some r → n ≤ c.length ∧ K (c.take n) = some r
  | 0, c, K, r, h => ⟨Nat.zero_le _, h⟩
  | n + 1, [], K, r, h => by cases h
  | n + 1, v :: c, K, r, h => by
    obtain ⟨h1, h2⟩ := ktake_ok (n := n) (c := c) h
    exact ⟨by simp only [List.length_cons]; omega, by simpa using h2⟩
theorem takeCells_take {c : List Value} {n : Nat} (h : n ≤ c.length) : takeCells c 0 n = some (c.take n) := by
  cases c <;> (simp only [takeCells]; rw [if_neg (by omega)])
theorem kdrop_ok : ∀ {k : Nat} {c : List Value} {K : List Value → KR} {r : Value × AS}, kdrop k c K = some r → k ≤ c.length ∧ K (c.drop k) = some r ∧ ∀ n, takeCells c k n = takeCells (c.drop k) 0 n
  | 0, c, K, r, h => ⟨Nat.zero_le _, h, fun n => by simp⟩
  | k + 1, [], K, r, h => by cases h
  | k + 1, v :: c, K, r, h => by
    obtain ⟨h1, h2, h3⟩ := kdrop_ok (k := k) (c := c) h
    exact ⟨by simp only [List.length_cons]; omega, by simpa using h2, fun n => by simpa [takeCells] using h3 n⟩
theorem takeCells_one : ∀ {k : Nat} {c : List Value} {v : Value}, c[k]? = some v → takeCells c k 1 = some [v]
  | 0, [], v, h => by cases h
  | 0, u :: c, v, h => by simp at h; subst h; simp [takeCells]
  | k + 1, [], v, h => by cases h
  | k + 1, u :: c, v, h => by simp only [takeCells]; exact takeCells_one (by simpa using h)
/-- What is written over what was. -/
def kover (vs : List Value) : List Value → (List Value → KR) → KR :=
  List.rec (motive := fun _ => List Value → (List Value → KR) → KR) (fun c K => K c) (fun v _ ih c K => Bool.rec (motive := fun _ => KR) none (List.rec (motive := fun _ => KR) none (fun _ r _ => ih r (fun l => K (v :: l))) c) (v.oneCell')) vs
theorem wrCells_nil (c : List Value) (o : Nat) : wrCells c o [] = c := by cases c <;> simp [wrCells]
theorem kover_ok : ∀ {vs c : List Value} {K : List Value → KR} {r : Value × AS}, kover vs c K = some r → vs.length ≤ c.length ∧ vs.all (·.oneCell') = true ∧ K (wrCells c 0 vs) = some r
  | [], c, K, r, h => ⟨Nat.zero_le _, rfl, by rw [wrCells_nil]; exact h⟩
  | v :: vs, c, K, r, h => by
    have h' : Bool.rec (motive := fun _ => KR) none (List.rec (motive := fun _ => KR) none (fun _ r _ => kover vs r (fun l => K (v :: l))) c) (v.oneCell') = some r := h
    rcases onNat_rec h' with ⟨_, q⟩ | ⟨hv, q⟩
    · cases q
    cases c with
    | nil => cases q
    | cons u c =>
      obtain ⟨h1, h2, h3⟩ := kover_ok (vs := vs) (c := c) q
      exact ⟨by simp only [List.length_cons]; omega, by rw [List.all_cons, hv, h2]; rfl, by simpa [wrCells] using h3⟩
def kwrite (k : Nat) (vs : List Value) : List Value → (List Value → KR) → KR :=
  Nat.rec (motive := fun _ => List Value → (List Value → KR) → KR) (fun c K => kover vs c K) (fun _ ih c K => List.rec (motive := fun _ => KR) none (fun x r _ => ih r (fun l => K (x :: l))) c) k
theorem kwrite_ok : ∀ {k : Nat} {vs c : List Value} {K : List Value → KR} {r : Value × AS}, kwrite k vs c K = some r → k + vs.length ≤ c.length ∧ vs.all (·.oneCell') = true ∧ K (wrCells c k vs) = some r
  | 0, vs, c, K, r, h => by obtain ⟨h1, h2, h3⟩ := kover_ok (vs := vs) (c := c) h; exact ⟨by omega, h2, h3⟩
  | k + 1, vs, [], K, r, h => by cases h
  | k + 1, vs, x :: c, K, r, h => by
    obtain ⟨h1, h2, h3⟩ := kwrite_ok (k := k) (vs := vs) (c := c) h
    refine ⟨by simp only [List.length_cons]; omega, h2, ?_⟩
    cases vs with
    | nil => simpa [wrCells, wrCells_nil] using h3
    | cons v vs => simpa [wrCells] using h3
def kcells (v : Value) : List Value :=
  Value.rec (motive_1 := fun _ => List Value) (motive_2 := fun _ => Unit) (motive_3 := fun _ => Unit)
    (fun _ => [v]) (fun _ _ => [v]) (fun _ _ => [v]) (fun _ _ _ => [v]) (fun _ => [v]) (fun _ => [v]) (fun _ _ _ => [v]) (fun _ => [v]) (fun _ => [v]) (fun _ _ _ _ _ => [v])
    [v] (fun _ _ _ => [v]) [v] (fun c _ => c.toList) (fun _ _ => [v]) (fun _ _ => ()) () (fun _ _ _ _ => ()) v
theorem kcells_eq (v : Value) : kcells v = v.cells.toList := by
  cases v <;> rfl
/-- Has a list just so many? -/
def klen (n : Nat) : List Value → Bool := Nat.rec (motive := fun _ => List Value → Bool) (fun c => List.rec (motive := fun _ => Bool) true (fun _ _ _ => false) c) (fun _ ih c => List.rec (motive := fun _ => Bool) false (fun _ r _ => ih r) c) n
theorem klen_ok : ∀ {n : Nat} {c : List Value}, klen n c = true → c.length = n
  | 0, [], _ => rfl
  | 0, _ :: _, h => by cases h
  | n + 1, [], h => by cases h
  | n + 1, _ :: c, h => by simp only [List.length_cons]; rw [klen_ok (n := n) (c := c) h]

structure KLoad where run : AS → Nat → Nat → (Value → KR) → KR
def kload (E : Env) (t : TypeId) : KLoad :=
  match E.isAgg t with
  | some true => match E.size t with
    | some n => ⟨fun σ b o K => onCells (σ.heap.getR b) fun c _ _ => kdrop o c fun c => ktake n c fun l => K (.agg ⟨l⟩)⟩
    | none => ⟨fun _ _ _ _ => none⟩
  | some false => ⟨fun σ b o K => onCells (σ.heap.getR b) fun c _ _ => kth o c K⟩
  | none => ⟨fun _ _ _ _ => none⟩
theorem kload_ok {E : Env} {t : TypeId} {σ : AS} {b o : Nat} {K : Value → KR} {r : Value × AS} (h : (kload E t).run σ b o K = some r) : ∃ v, aload E σ t ⟨b, o, none⟩ = some v ∧ K v = some r := by
  unfold kload at h
  unfold aload
  cases ha : E.isAgg t with
  | none => rw [ha] at h; cases h
  | some x =>
    rw [ha] at h
    cases x with
    | true =>
      simp only at h ⊢
      cases hs : E.size t with
      | none => rw [hs] at h; cases h
      | some n =>
        rw [hs] at h
        obtain ⟨c, ro, gr, h1, h2⟩ := onCells_ok h
        rw [Tr.getR_eq] at h1
        obtain ⟨_, h3, h4⟩ := kdrop_ok h2
        obtain ⟨h5, h6⟩ := ktake_ok h3
        refine ⟨_, ?_, h6⟩
        simp only [AS.read, AS.get, h1, h4, takeCells_take h5, Option.map_some]
    | false =>
      simp only at h ⊢
      obtain ⟨c, ro, gr, h1, h2⟩ := onCells_ok h
      rw [Tr.getR_eq] at h1
      obtain ⟨v, h3, h4⟩ := kth_ok h2
      refine ⟨v, ?_, h4⟩
      simp only [AS.read, AS.get, h1, takeCells_one h3]
structure KStore where run : AS → Nat → Nat → Value → (AS → KR) → KR
def kstore (E : Env) (t : TypeId) : KStore :=
  match E.size t with
  | some n => ⟨fun σ b o v K => onTrue (klen n (kcells v)) (onCells (σ.heap.getR b) fun c ro gr => Bool.rec (motive := fun _ => KR) (kwrite o (kcells v) c fun c' => K (σ.put b (.cells c' false gr))) none ro)⟩
  | none => ⟨fun _ _ _ _ _ => none⟩
theorem kstore_ok {E : Env} {t : TypeId} {σ : AS} {b o : Nat} {v : Value} {K : AS → KR} {r : Value × AS} (h : (kstore E t).run σ b o v K = some r) : ∃ σ', astore E σ t ⟨b, o, none⟩ v = some σ' ∧ K σ' = some r := by
  unfold kstore at h
  unfold astore
  cases hs : E.size t with
  | none => rw [hs] at h; cases h
  | some n =>
    rw [hs] at h
    obtain ⟨h0, h⟩ := onTrue_ok h
    obtain ⟨c, ro, gr, h1, h2⟩ := onCells_ok h
    rw [Tr.getR_eq] at h1
    rcases onNat_rec h2 with ⟨rfl, h2⟩ | ⟨_, h2⟩
    · obtain ⟨h3, h4, h5⟩ := kwrite_ok h2
      refine ⟨_, ?_, h5⟩
      have hn := klen_ok h0
      rw [kcells_eq] at hn h3 h4
      have hn' : v.cells.size = n := by simpa using hn
      have hb : Nat.ble (o + v.cells.toList.length) c.length = true := Nat.ble_eq_true_of_le h3
      simp only [hn', Nat.beq_refl, cond_true, AS.write, AS.get, h1, hb, h4, Bool.and_self, kcells_eq]
    · cases h2
end
end Go.VAbs

/-! The machine for the kernel, part 5: operations. -/
namespace Go.VAbs
open Go
set_option linter.unusedVariables false
noncomputable section
set_option linter.unusedSimpArgs false

abbrev KCall := Nat → List Value → AS → (Value → AS → KR) → KR
def KCallOk (kc : KCall) (call : ACall) : Prop := ∀ n args σ K r, kc n args σ K = some r → ∃ v σ', call n args σ = some (v, σ') ∧ K v σ' = some r
structure KOp where run : KCall → KT → AS → (Value → AS → Foot → KR) → KR
def KOpOk (E : Env) (f : KOp) (op : Op) : Prop := ∀ (N : Nat) (t : KT) (T : ATmps) (σ : AS) (kc : KCall) (call : ACall) (K : Value → AS → Foot → KR) (r : Value × AS) (o : Oper), o.op = op → KRel N t T → KCallOk kc call → f.run kc t σ K = some r →
  ∃ v σ' ft, aoper E call T o σ = some (v, σ', ft) ∧ K v σ' ft = some r
def kfail : KOp := ⟨fun _ _ _ _ => none⟩
theorem kfail_ok (E : Env) (op : Op) : KOpOk E kfail op := by intro N t T σ kc call K r o ho hT hc h; cases h

/-! ### The slow way -/
def tmpsIn : List Operand → List Nat
  | [] => []
  | .tmp t :: r => t :: tmpsIn r
  | _ :: r => tmpsIn r
theorem mem_tmpsIn : ∀ {l : List Operand} {t : Nat}, Operand.tmp t ∈ l → t ∈ tmpsIn l
  | x :: r, t, h => by
    rcases List.mem_cons.1 h with h | h
    · subst h; simp [tmpsIn]
    · have := mem_tmpsIn h
      cases x <;> simp [tmpsIn, this]
structure KTr where run : KT → Tr Value
def kmk : List Nat → KTr
  | [] => ⟨fun _ => .e⟩
  | i :: r => ⟨fun t => ((kmk r).run t).set i ((kget i).run t)⟩
theorem kmk_get (t : KT) : ∀ {l : List Nat} {i : Nat}, i ∈ l → ((kmk l).run t).get i = some (t.get i)
  | j :: l, i, h => by
    simp only [kmk, Tr.get_set, kget_eq]
    by_cases e : i = j
    · rw [if_pos e, e]
    · rw [if_neg e]
      rcases List.mem_cons.1 h with h | h
      · exact absurd h e
      · exact kmk_get t h
def allLow : List Nat → Bool
  | [] => true
  | i :: r => cond (Nat.blt i 256) (allLow r) false
theorem allLow_ok : ∀ {l : List Nat}, allLow l = true → ∀ i ∈ l, i < 256
  | j :: l, h, i, hi => by
    simp only [allLow, cond_eq_ite] at h
    split at h
    · rename_i hb
      rcases List.mem_cons.1 hi with e | e
      · rw [e]; exact Nat.blt_eq.mp hb
      · exact allLow_ok h i e
    · cases h
def kslow (E : Env) (op : Op) : KOp :=
  match allLow (tmpsIn op.operands.toList) with
  | true => ⟨fun _ t σ K => onSome (aoper E noCall ⟨(kmk (tmpsIn op.operands.toList)).run t, 0⟩ { op, dst := none, type := 0, pos := "", after := #[], guard := none } σ) fun r => K r.1 r.2.1 r.2.2⟩
  | false => kfail
theorem aoper_op (E : Env) (call : ACall) (T : ATmps) (o o' : Oper) (σ : AS) (h : o.op = o'.op) : aoper E call T o σ = aoper E call T o' σ := by
  unfold aoper; rw [h]
theorem kslow_ok (E : Env) (op : Op) : KOpOk E (kslow E op) op := by
  intro N t T σ kc call K r o ho hT hc h
  unfold kslow at h
  split at h
  · rename_i hl
    obtain ⟨⟨v, σ', f⟩, h1, h2⟩ := onSome_ok h
    refine ⟨v, σ', f, ?_, h2⟩
    have hev : ∀ x ∈ op.operands, ev E T x = ev E ⟨(kmk (tmpsIn op.operands.toList)).run t, 0⟩ x := by
      intro x hx
      cases x with
      | tmp i =>
        have hm := mem_tmpsIn (Array.mem_toList_iff.2 hx)
        simp only [ev]
        rw [hT.2 i (allLow_ok hl i hm)]
        unfold ATmps.get
        rw [kmk_get t hm]; rfl
      | _ => rfl
    rw [aoper_congr call σ (by rw [ho]; exact hev)]
    rw [aoper_op E call _ o { op, dst := none, type := 0, pos := "", after := #[], guard := none } σ ho]
    rw [← aoper_noCall ?_]
    · exact h1
    · cases hac : acallee E ⟨(kmk (tmpsIn op.operands.toList)).run t, 0⟩ op with
      | none => rfl
      | some p =>
        obtain ⟨n, args⟩ := p
        unfold aoper at h1
        simp only [hac, noCall] at h1
        cases h1
  · cases h

/-! ### The fast ones -/
section
variable {E : Env} {N : Nat} {t : KT} {T : ATmps} {σ : AS} {call : ACall} {o : Oper}
theorem aoper_pure {v : Value} (h1 : acallee E T o.op = none) (h2 : apure E T o.op = some v) : aoper E call T o σ = some (v, σ, .pure) := by
  unfold aoper; simp only [h1, h2]
end

def kmove (E : Env) (x : Operand) : KOp := match kev E x with
  | some g => ⟨fun _ t σ K => K (g.run t) σ .pure⟩
  | none => kfail
theorem kmove_ok (E : Env) (x : Operand) : KOpOk E (kmove E x) (.move x) ∧ KOpOk E (kmove E x) (.assign x) := by
  constructor <;>
  · intro N t T σ kc call K r o ho hT hc h
    unfold kmove at h
    split at h
    · rename_i g hg
      exact ⟨_, _, _, aoper_pure (by rw [ho]; rfl) (by rw [ho]; exact kev_ok hT hg), h⟩
    · cases h

def kkind (k j : IntKind) (x d : KR) : KR := Bool.rec (motive := fun _ => KR) d x (Nat.beq (knum k) (knum j))
theorem kkind_ok {k j : IntKind} {x d : KR} {r : Value × AS} (h : kkind k j x d = some r) : d = some r ∨ (k = j ∧ x = some r) := by
  rcases onNat_rec h with ⟨_, q⟩ | ⟨e, q⟩
  · exact .inl q
  · exact .inr ⟨knum_inj e, q⟩
def kshift (op : BinOp) (k : IntKind) (a b : Nat) (d : KR) (K : Value → KR) : KR :=
  match op with
  | .shl => K (.int k (kwrapN k (Nat.mul a (Nat.pow 2 (Bool.rec (motive := fun _ => Nat) (kbits k) b (Nat.ble b (kbits k)))))))
  | .shr => K (.int k (Int.ofNat (Nat.div a (Nat.pow 2 (Bool.rec (motive := fun _ => Nat) (kbits k) b (Nat.ble b (kbits k)))))))
  | _ => d
theorem kshift_ok {P : Program} {op : BinOp} {t : TypeId} {k j : IntKind} {a b : Nat} {d : KR} {K : Value → KR} {r : Value × AS} (h : kshift op k a b d K = some r) :
    d = some r ∨ ∃ v, K v = some r ∧ pureVal P (binOp op t (.int k (Int.ofNat a)) (.int j (Int.ofNat b))) = some v := by
  have pv : ∀ v, closed v = true → pureVal P (Sem.pure v) = some v := by intro v hv; simp only [pureVal, pureRun, hv, cond_true]
  have hm : (Bool.rec (motive := fun _ => Nat) (kbits k) b (Nat.ble b (kbits k))) = min (Int.ofNat b).toNat k.bits := by
    rw [kbits_eq]
    show _ = min b k.bits
    cases hb : Nat.ble b k.bits with
    | true => have := Nat.le_of_ble_eq_true hb; show b = _; omega
    | false =>
      have : ¬ b ≤ k.bits := fun q => by rw [Nat.ble_eq_true_of_le q] at hb; cases hb
      show k.bits = _; omega
  have hn : ¬ ((Int.ofNat b : Int) < 0) := by have := Int.natCast_nonneg b; show ¬ ((b : Int) < 0); omega
  unfold kshift at h
  split at h
  · refine .inr ⟨_, h, ?_⟩
    rw [kwrapN_eq, hm]
    simp only [binOp, Op.shift]
    rw [if_neg hn]
    have e : (Int.ofNat (Nat.mul a (Nat.pow 2 (min (Int.ofNat b).toNat k.bits))) : Int) = (Int.ofNat a : Int) * 2 ^ (min (Int.ofNat b).toNat k.bits) := by
      show ((a * 2 ^ (min (Int.ofNat b).toNat k.bits) : Nat) : Int) = (a : Int) * 2 ^ (min (Int.ofNat b).toNat k.bits)
      push_cast; rfl
    rw [e]
    exact pv _ rfl
  · refine .inr ⟨_, h, ?_⟩
    rw [hm]
    simp only [binOp, Op.shift]
    rw [if_neg hn]
    have e : (Int.ofNat (Nat.div a (Nat.pow 2 (min (Int.ofNat b).toNat k.bits))) : Int) = (Int.ofNat a : Int).fdiv (2 ^ (min (Int.ofNat b).toNat k.bits)) := by
      have : ((2 : Int) ^ (min (Int.ofNat b).toNat k.bits)) = Int.ofNat (2 ^ (min (Int.ofNat b).toNat k.bits)) := by
        show _ = ((2 ^ (min (Int.ofNat b).toNat k.bits) : Nat) : Int)
        push_cast; rfl
      rw [this]; exact (Int.ofNat_fdiv _ _)
    rw [e]
    exact pv _ rfl
  · exact .inl h
def isShift : BinOp → Bool
  | .shl | .shr => true
  | _ => false
structure KBin where run : Value → Value → (Value → KR) → KR
def kbin (E : Env) (op : BinOp) (t : TypeId) (x y : Operand) : KBin :=
  match isShift op with
  | true => ⟨fun a b K => onNum a (fun k m => onNum b (fun j n => kshift op k m n (onSome (abin E op t x y a b) K) K) (onSome (abin E op t x y a b) K)) (onSome (abin E op t x y a b) K)⟩
  | false => ⟨fun a b K => onNumStr a
      (fun k m => onNum b (fun j n => kkind k j ((nbin op).run k m n (onSome (abin E op t x y a b) K) K) (onSome (abin E op t x y a b) K)) (onSome (abin E op t x y a b) K))
      (fun s => onStr b (fun u => onSome (strBin op s u) K) none) (onSome (abin E op t x y a b) K)⟩
theorem kbin_ok {E : Env} {op : BinOp} {t : TypeId} {x y : Operand} {a b : Value} {K : Value → KR} {r : Value × AS} (h : (kbin E op t x y).run a b K = some r) : ∃ v, abin E op t x y a b = some v ∧ K v = some r := by
  have slow : ∀ {r}, onSome (abin E op t x y a b) K = some r → ∃ v, abin E op t x y a b = some v ∧ K v = some r := fun h => onSome_ok h
  unfold kbin at h
  split at h
  · rcases onNum_ok h with q | ⟨k, m, rfl, h⟩
    · exact slow q
    rcases onNum_ok h with q | ⟨j, n, rfl, h⟩
    · exact slow q
    rcases kshift_ok (P := E.P) (t := t) (j := j) h with q | ⟨v, h1, h2⟩
    · exact slow q
    · exact ⟨v, by simp only [abin, isLit, Bool.and_self, cond_true, h2], h1⟩
  · rcases onNumStr_ok h with q | ⟨k, m, rfl, h⟩ | ⟨s, rfl, h⟩
    · exact slow q
    · rcases onNum_ok h with q | ⟨j, n, rfl, h⟩
      · exact slow q
      rcases kkind_ok h with q | ⟨rfl, h⟩
      · exact slow q
      rcases nbin_ok (P := E.P) (t := t) h with q | ⟨v, h1, h2⟩
      · exact slow q
      · exact ⟨v, by simp only [abin, isLit, Bool.and_self, cond_true, h2], h1⟩
    · rcases onStr_ok h with q | ⟨u, rfl, h⟩
      · cases q
      obtain ⟨v, h1, h2⟩ := onSome_ok h
      exact ⟨v, by rw [← strBin_eq]; exact h1, h2⟩
def kbinop (E : Env) (op : BinOp) (ty : TypeId) (x y : Operand) : KOp := match kev E x, kev E y with
  | some gx, some gy => ⟨fun _ t σ K => (kbin E op ty x y).run (gx.run t) (gy.run t) fun v => K v σ .pure⟩
  | _, _ => kfail
theorem kbinop_ok (E : Env) (op : BinOp) (ty yt : TypeId) (x y : Operand) : KOpOk E (kbinop E op ty x y) (.binOp op ty x y yt) := by
  intro N t T σ kc call K r o ho hT hc h
  unfold kbinop at h
  split at h
  · rename_i gx gy hx hy
    obtain ⟨v, h1, h2⟩ := kbin_ok h
    exact ⟨_, _, _, aoper_pure (by rw [ho]; rfl) (by rw [ho]; simp only [apure, kev_ok hT hx, kev_ok hT hy]; exact h1), h2⟩
  · cases h
def kpick (E : Env) (c a b : Operand) : KOp := match kev E c, kev E a, kev E b with
  | some gc, some ga, some gb => ⟨fun _ t σ K => onBool (gc.run t) (K (ga.run t) σ .pure) (K (gb.run t) σ .pure)⟩
  | _, _, _ => kfail
theorem kpick_ok (E : Env) (c a b : Operand) : KOpOk E (kpick E c a b) (.pick c a b) := by
  intro N t T σ kc call K r o ho hT hc h
  unfold kpick at h
  split at h
  · rename_i gc ga gb h1 h2 h3
    rcases onBool_ok h with ⟨e, h⟩ | ⟨e, h⟩
    · exact ⟨_, _, _, aoper_pure (by rw [ho]; rfl) (by rw [ho]; simp only [apure, kev_ok hT h1, e]; exact kev_ok hT h2), h⟩
    · exact ⟨_, _, _, aoper_pure (by rw [ho]; rfl) (by rw [ho]; simp only [apure, kev_ok hT h1, e]; exact kev_ok hT h3), h⟩
  · cases h
theorem addr_add (b o n : Nat) : (⟨b, o, none⟩ : Addr).add n = ⟨b, o + n, none⟩ := by
  unfold Addr.add
  split
  · rename_i h; subst h; rfl
  · rfl
def kfieldAddr (E : Env) (s : TypeId) (x : Operand) (f : Nat) : KOp := match kev E x, E.und s with
  | some g, some (.struct fs) => match fs[f]? with
    | some fl => match E.size fl.type with
      | some (_ + 1) => ⟨fun _ t σ K => onPtr (g.run t) fun b o => K (.pointer (some ⟨b, Nat.add o fl.offset, none⟩)) σ .pure⟩
      | _ => kfail
    | none => kfail
  | _, _ => kfail
theorem kfieldAddr_ok (E : Env) (s : TypeId) (x : Operand) (f : Nat) : KOpOk E (kfieldAddr E s x f) (.fieldAddr s x f) := by
  intro N t T σ kc call K r o ho hT hc h
  unfold kfieldAddr at h
  split at h
  · rename_i g fs hx hu
    split at h
    · rename_i fl hf
      split at h
      · rename_i n hs
        obtain ⟨b, of, hv, h⟩ := onPtr_ok h
        exact ⟨_, _, _, aoper_pure (by rw [ho]; rfl) (by rw [ho]; simp only [apure, hu, kev_ok hT hx, hv, hf, hs, addr_add]; rfl), h⟩
      · cases h
    · cases h
  · cases h
def kloadop (E : Env) (ty : TypeId) (x : Operand) : KOp := match kev E x with
  | some g => ⟨fun _ t σ K => onPtr (g.run t) fun b o => (kload E ty).run σ b o fun v => K v σ (.rd b)⟩
  | none => kfail
theorem kloadop_ok (E : Env) (ty : TypeId) (x : Operand) : KOpOk E (kloadop E ty x) (.load ty x) := by
  intro N t T σ kc call K r o ho hT hc h
  unfold kloadop at h
  split at h
  · rename_i g hx
    obtain ⟨b, of, hv, h⟩ := onPtr_ok h
    obtain ⟨v, h1, h2⟩ := kload_ok h
    refine ⟨v, σ, .rd b, ?_, h2⟩
    unfold aoper
    rw [ho]
    simp only [acallee, apure, aalloc, kev_ok hT hx, hv, h1, Option.map_some]
  · cases h
def kstoreop (E : Env) (ty : TypeId) (x y : Operand) : KOp := match kev E x, kev E y with
  | some g, some gy => ⟨fun _ t σ K => onPtr (g.run t) fun b o => (kstore E ty).run σ b o (gy.run t) fun σ' => K undef σ' (.wr b)⟩
  | _, _ => kfail
theorem kstoreop_ok (E : Env) (ty : TypeId) (x y : Operand) : KOpOk E (kstoreop E ty x y) (.store ty x y) := by
  intro N t T σ kc call K r o ho hT hc h
  unfold kstoreop at h
  split at h
  · rename_i g gy hx hy
    obtain ⟨b, of, hv, h⟩ := onPtr_ok h
    obtain ⟨σ', h1, h2⟩ := kstore_ok h
    refine ⟨undef, σ', .wr b, ?_, h2⟩
    unfold aoper
    rw [ho]
    simp only [acallee, apure, aalloc, kev_ok hT hx, kev_ok hT hy, hv, h1, Option.map_some]
  · cases h
def kalloc (E : Env) (e : TypeId) : KOp := match E.zero e with
  | some z => match closed z with
    | true => ⟨fun _ t σ K => K (.pointer (some ⟨σ.next, 0, none⟩)) (σ.alloc (.cells z.cells.toList false none)) (.alloc σ.next)⟩
    | false => kfail
  | none => kfail
theorem kalloc_ok (E : Env) (e : TypeId) : KOpOk E (kalloc E e) (.alloc e) := by
  intro N t T σ kc call K r o ho hT hc h
  unfold kalloc at h
  split at h
  · rename_i z hz
    split at h
    · rename_i hcl
      refine ⟨_, _, _, ?_, h⟩
      unfold aoper
      rw [ho]
      simp only [acallee, apure, aalloc, hz, hcl, cond_true]
    · cases h
  · cases h
def kbox (E : Env) (e : TypeId) (x : Operand) : KOp := match kev E x with
  | some g => ⟨fun _ t σ K => K (.pointer (some ⟨σ.next, 0, none⟩)) (σ.alloc (.cells (kcells (g.run t)) false none)) (.alloc σ.next)⟩
  | none => kfail
theorem kbox_ok (E : Env) (e : TypeId) (x : Operand) : KOpOk E (kbox E e x) (.box e x) := by
  intro N t T σ kc call K r o ho hT hc h
  unfold kbox at h
  split at h
  · rename_i g hx
    refine ⟨_, _, _, ?_, h⟩
    unfold aoper
    rw [ho]
    simp only [acallee, apure, aalloc, kev_ok hT hx, kcells_eq]
  · cases h
def knilCheck (E : Env) (x : Operand) : KOp := match kev E x with
  | some g => ⟨fun kc t σ K => onPtrD (g.run t) (fun b o => K (.pointer (some ⟨b, o, none⟩)) σ .pure) ((kslow E (.nilCheck x)).run kc t σ K)⟩
  | none => kfail
theorem knilCheck_ok (E : Env) (x : Operand) : KOpOk E (knilCheck E x) (.nilCheck x) := by
  intro N t T σ kc call K r o ho hT hc h
  unfold knilCheck at h
  split at h
  · rename_i g hx
    rcases onPtrD_ok h with q | ⟨b, of, hv, h⟩
    · exact kslow_ok E _ N t T σ kc call K r o ho hT hc q
    · exact ⟨_, _, _, aoper_pure (by rw [ho]; rfl) (by rw [ho]; simp only [apure, kev_ok hT hx, hv]), h⟩
  · cases h
/-- May a number of one kind be had in another, as it is? Below what. -/
def kwider (ds : TypeDesc) (k : IntKind) : Option Nat := match ds with
  | .int j => Bool.rec (motive := fun _ => Option Nat) (Bool.rec (motive := fun _ => Option Nat) none (some (ktop j)) (Nat.ble (ktop j) (ktop k))) none (ksig j)
  | _ => none
theorem kwider_le {ds : TypeDesc} {k : IntKind} {m : Nat} (h : kwider ds k = some m) : m ≤ ktop k := by
  unfold kwider at h
  split at h
  · rename_i j
    cases hs : ksig j with
    | true => rw [hs] at h; cases h
    | false =>
      rw [hs] at h
      cases hb : Nat.ble (ktop j) (ktop k) with
      | false => rw [hb] at h; cases h
      | true => rw [hb] at h; cases h; exact Nat.le_of_ble_eq_true hb
  · cases h
def kconvert (E : Env) (s d : TypeId) (x : Operand) : KOp := match kev E x, E.und s, E.und d with
  | some g, some ds, some (.int k) => match kwider ds k with
    | some m => ⟨fun kc t σ K => onNum (g.run t) (fun _ n => onTrue (Nat.ble (Nat.succ n) m) (K (.int k (Int.ofNat n)) σ .pure)) ((kslow E (.convert s d x)).run kc t σ K)⟩
    | none => ⟨fun kc t σ K => onNum (g.run t) (fun _ n => K (.int k (kwrapN k n)) σ .pure) ((kslow E (.convert s d x)).run kc t σ K)⟩
  | _, _, _ => kslow E (.convert s d x)
theorem kconvert_ok (E : Env) (s d : TypeId) (x : Operand) : KOpOk E (kconvert E s d x) (.convert s d x) := by
  intro N t T σ kc call K r o ho hT hc h
  unfold kconvert at h
  split at h
  · rename_i g ds k hx hs hd
    split at h
    · rename_i m hw
      rcases onNum_ok h with q | ⟨j, n, hv, h⟩
      · exact kslow_ok E _ N t T σ kc call K r o ho hT hc q
      · obtain ⟨hb, h⟩ := onTrue_ok h
        have hle : n < ktop k := Nat.lt_of_lt_of_le (Nat.le_of_ble_eq_true hb) (kwider_le hw)
        refine ⟨_, _, _, aoper_pure (v := .int k (Int.ofNat n)) (by rw [ho]; rfl) ?_, h⟩
        rw [ho]; simp only [apure, kev_ok hT hx, hv, aconv, hs, hd]; rw [ktop_wrap hle]
    · rcases onNum_ok h with q | ⟨j, n, hv, h⟩
      · exact kslow_ok E _ N t T σ kc call K r o ho hT hc q
      · exact ⟨_, _, _, aoper_pure (by rw [ho]; rfl) (by rw [ho]; simp only [apure, kev_ok hT hx, hv, aconv, hs, hd, kwrapN_eq]), h⟩
  · exact kslow_ok E _ N t T σ kc call K r o ho hT hc h
def kfield (E : Env) (ty : TypeId) (x : Operand) (f : Nat) : KOp := match kev E x, E.und ty with
  | some g, some (.struct fs) => match fs[f]? with
    | some fl => match E.isAgg fl.type with
      | some false => ⟨fun _ t σ K => onAgg (g.run t) fun c => kth fl.offset c.toList fun v => K v σ .pure⟩
      | some true => match E.size fl.type with
        | some n => ⟨fun _ t σ K => onAgg (g.run t) fun c => kdrop fl.offset c.toList fun c => ktake n c fun l => K (.agg ⟨l⟩) σ .pure⟩
        | none => kfail
      | none => kfail
    | none => kfail
  | _, _ => kfail
theorem extract_take (c : Array Value) (o n : Nat) : c.extract o (o + n) = ⟨(c.toList.drop o).take n⟩ := by
  apply Array.ext'
  simp [List.extract]
theorem kfield_ok (E : Env) (ty : TypeId) (x : Operand) (f : Nat) : KOpOk E (kfield E ty x f) (.field ty x f) := by
  intro N t T σ kc call K r o ho hT hc h
  unfold kfield at h
  split at h
  · rename_i g fs hx hu
    split at h
    · rename_i fl hf
      split at h
      · rename_i ha
        obtain ⟨c, hv, h⟩ := onAgg_ok h
        obtain ⟨v, h1, h2⟩ := kth_ok h
        exact ⟨_, _, _, aoper_pure (by rw [ho]; rfl) (by rw [ho]; simp only [apure, hu, kev_ok hT hx, hv, hf, apart, ha]; simpa using h1), h2⟩
      · rename_i ha
        split at h
        · rename_i n hs
          obtain ⟨c, hv, h⟩ := onAgg_ok h
          obtain ⟨_, h, _⟩ := kdrop_ok h
          obtain ⟨_, h⟩ := ktake_ok h
          exact ⟨_, _, _, aoper_pure (by rw [ho]; rfl) (by rw [ho]; simp only [apure, hu, kev_ok hT hx, hv, hf, apart, ha, hs, Option.map_some, extract_take]), h⟩
        · cases h
      · cases h
    · cases h
  · cases h
def kextract (E : Env) (x : Operand) (i : Nat) : KOp := match kev E x with
  | some g => ⟨fun _ t σ K => onTup (g.run t) fun c => kth i c.toList fun v => K v σ .pure⟩
  | none => kfail
theorem kextract_ok (E : Env) (x : Operand) (i : Nat) : KOpOk E (kextract E x i) (.extract x i) := by
  intro N t T σ kc call K r o ho hT hc h
  unfold kextract at h
  split at h
  · rename_i g hx
    obtain ⟨c, hv, h⟩ := onTup_ok h
    obtain ⟨v, h1, h2⟩ := kth_ok h
    exact ⟨_, _, _, aoper_pure (by rw [ho]; rfl) (by rw [ho]; simp only [apure, kev_ok hT hx, hv]; simpa using h1), h2⟩
  · cases h
def kindexAddr (E : Env) (ty : TypeId) (x i : Operand) : KOp := match kev E x, kev E i, E.und ty with
  | some g, some gi, some (.array n e) => match E.size e with
    | some s => ⟨fun _ t σ K => onPtr (g.run t) fun b o => onNum (gi.run t) (fun _ i => onTrue (Nat.ble (Nat.succ i) n) (K (.pointer (some ⟨b, Nat.add o (Nat.mul i s), none⟩)) σ .pure)) none⟩
    | none => kfail
  | some g, some gi, some (.slice e) => match E.size e with
    | some s => ⟨fun _ t σ K => onSlice (g.run t) (fun a n _ => onAddr a fun b o => onNum (gi.run t) (fun _ i => onTrue (Nat.ble (Nat.succ i) n) (K (.pointer (some ⟨b, Nat.add o (Nat.mul i s), none⟩)) σ .pure)) none) none⟩
    | none => kfail
  | _, _, _ => kfail
theorem kindexAddr_ok (E : Env) (ty : TypeId) (x i : Operand) : KOpOk E (kindexAddr E ty x i) (.indexAddr ty x i) := by
  have inb : ∀ {i n : Nat}, Nat.ble (Nat.succ i) n = true → (decide ((0 : Int) ≤ Int.ofNat i) && decide ((Int.ofNat i : Int) < (n : Int))) = true := by
    intro i n h
    have := Nat.le_of_ble_eq_true h
    rw [Bool.and_eq_true, decide_eq_true_eq, decide_eq_true_eq]
    exact ⟨Int.natCast_nonneg i, Int.ofNat_lt.2 this⟩
  have tn : ∀ i : Nat, (Int.ofNat i).toNat = i := fun _ => rfl
  intro N t T σ kc call K r o ho hT hc h
  unfold kindexAddr at h
  split at h
  · rename_i g gi n e hx hi hu
    split at h
    · rename_i s hs
      obtain ⟨b, of, hv, h⟩ := onPtr_ok h
      rcases onNum_ok h with q | ⟨k, ix, hw, h⟩
      · cases q
      obtain ⟨hb, h⟩ := onTrue_ok h
      exact ⟨_, _, _, aoper_pure (by rw [ho]; rfl) (by rw [ho]; simp only [apure, kev_ok hT hx, kev_ok hT hi, hv, hw, aindexAddr, hu, hs, inb hb, cond_true, addr_add, tn]; rfl), h⟩
    · cases h
  · rename_i g gi e hx hi hu
    split at h
    · rename_i s hs
      rcases onSlice_ok h with q | ⟨a, n, c, hv, h⟩
      · cases q
      obtain ⟨b, of, rfl, h⟩ := onAddr_ok h
      rcases onNum_ok h with q | ⟨k, ix, hw, h⟩
      · cases q
      obtain ⟨hb, h⟩ := onTrue_ok h
      exact ⟨_, _, _, aoper_pure (by rw [ho]; rfl) (by rw [ho]; simp only [apure, kev_ok hT hx, kev_ok hT hi, hv, hw, aindexAddr, hu, hs, inb hb, cond_true, addr_add, tn]; rfl), h⟩
    · cases h
  · cases h
def kindex (E : Env) (ty : TypeId) (x i : Operand) : KOp := match kev E x, kev E i, E.und ty with
  | some g, some gi, some .string => ⟨fun _ t σ K => onStr (g.run t) (fun s => onNum (gi.run t) (fun _ i => kth i s.data.toList fun b => K (.int .u8 (Int.ofNat b.toNat)) σ .pure) none) none⟩
  | _, _, _ => kslow E (.index ty x i)
theorem kindex_ok (E : Env) (ty : TypeId) (x i : Operand) : KOpOk E (kindex E ty x i) (.index ty x i) := by
  intro N t T σ kc call K r o ho hT hc h
  unfold kindex at h
  split at h
  · rename_i g gi hx hi hu
    rcases onStr_ok h with q | ⟨s, hv, h⟩
    · cases q
    rcases onNum_ok h with q | ⟨k, ix, hw, h⟩
    · cases q
    obtain ⟨b, h1, h2⟩ := kth_ok h
    have h0 : decide ((0 : Int) ≤ Int.ofNat ix) = true := decide_eq_true (Int.natCast_nonneg ix)
    have tn : (Int.ofNat ix).toNat = ix := rfl
    have hd : s.data[ix]? = some b := by simpa using h1
    exact ⟨_, _, _, aoper_pure (by rw [ho]; rfl) (by rw [ho]; simp only [apure, kev_ok hT hx, kev_ok hT hi, hv, hw, aindex, hu, h0, cond_true, tn, hd, Option.map_some]; rfl), h2⟩
  · exact kslow_ok E _ N t T σ kc call K r o ho hT hc h
def knot (E : Env) (ty : TypeId) (x : Operand) : KOp := match kev E x with
  | some g => ⟨fun kc t σ K => onBoolD (g.run t) (fun b => K (.bool (Bool.rec (motive := fun _ => Bool) true false b)) σ .pure) ((kslow E (.unOp .not ty x)).run kc t σ K)⟩
  | none => kfail
theorem knot_ok (E : Env) (ty : TypeId) (x : Operand) : KOpOk E (knot E ty x) (.unOp .not ty x) := by
  intro N t T σ kc call K r o ho hT hc h
  unfold knot at h
  split at h
  · rename_i g hx
    rcases onBoolD_ok h with q | ⟨b, hv, h⟩
    · exact kslow_ok E _ N t T σ kc call K r o ho hT hc q
    · exact ⟨_, _, _, aoper_pure (by rw [ho]; rfl) (by rw [ho]; simp only [apure, kev_ok hT hx, hv]; cases b <;> rfl), h⟩
  · cases h
end
end Go.VAbs

/-! The machine for the kernel, part 6: calls, regions, code. -/
namespace Go.VAbs
open Go
set_option linter.unusedVariables false
noncomputable section
set_option linter.unusedSimpArgs false

/-! ### Calls -/
def kcallop (E : Env) (f : Operand) (args : List Operand) : KOp := match kevs E args with
  | some l => match f with
    | .func n => ⟨fun kc t σ K => kc n (l.run t) { σ with ws := [] } fun v σ' => K v { σ' with ws := σ'.ws ++ σ.ws } (.all (olds σ.next σ'.ws))⟩
    | f => match kev E f with
      | some g => ⟨fun kc t σ K => onFn (g.run t) fun n a b => kc n (a.toList ++ l.run t ++ b.toList) { σ with ws := [] } fun v σ' => K v { σ' with ws := σ'.ws ++ σ.ws } (.all (olds σ.next σ'.ws))⟩
      | none => kfail
  | none => kfail
theorem kcallop_ok (E : Env) (f : Operand) (args : Array Operand) (ts : Array TypeId) : KOpOk E (kcallop E f args.toList) (.call ⟨.value f, args, ts⟩) := by
  intro N t T σ kc call K r o ho hT hc h
  unfold kcallop at h
  split at h
  · rename_i l hl
    have hl' := kevs_ok hT hl
    split at h
    · rename_i n
      obtain ⟨v, σ', h1, h2⟩ := hc _ _ _ _ _ h
      refine ⟨_, _, _, ?_, h2⟩
      unfold aoper
      rw [ho]
      have : acallee E T (.call ⟨.value (.func n), args, ts⟩) = some (n, l.run t) := by
        simp only [acallee, ev, hl']
        simp
      simp only [this, h1]
    · split at h
      · rename_i g hg
        obtain ⟨n, a, b, hv, h⟩ := onFn_ok h
        obtain ⟨v, σ', h1, h2⟩ := hc _ _ _ _ _ h
        refine ⟨_, _, _, ?_, h2⟩
        unfold aoper
        rw [ho]
        have : acallee E T (.call ⟨.value f, args, ts⟩) = some (n, a.toList ++ l.run t ++ b.toList) := by
          simp only [acallee, kev_ok hT hg, hv, hl']
        simp only [this, h1]
      · cases h
  · cases h
def klenop (E : Env) (args ts : Array TypeId) (x : Operand) (sl : KOp) : KOp := match kev E x, ts[0]? with
  | some g, some ty => match E.und ty with
    | some .string => ⟨fun kc t σ K => onStr (g.run t) (fun s => K (.int .i64 (Int.ofNat s.data.toList.length)) σ .pure) none⟩
    | some (.slice _) => ⟨fun kc t σ K => onSlice (g.run t) (fun _ n _ => K (.int .i64 (Int.ofNat n)) σ .pure) none⟩
    | _ => sl
  | _, _ => sl
theorem klenop_ok (E : Env) (x : Operand) (ts u : Array TypeId) : KOpOk E (klenop E u ts x (kslow E (.call ⟨.builtin .len, #[x], ts⟩))) (.call ⟨.builtin .len, #[x], ts⟩) := by
  intro N t T σ kc call K r o ho hT hc h
  unfold klenop at h
  split at h
  · rename_i g ty hx hty
    split at h
    · rename_i hu
      rcases onStr_ok h with q | ⟨s, hv, h⟩
      · cases q
      refine ⟨_, _, _, aoper_pure (by rw [ho]; rfl) (by rw [ho]; simp only [apure, evs, kev_ok hT hx, hv, hty, alen, hu]; rfl), ?_⟩
      · have : s.data.toList.length = s.size := Array.length_toList
        rw [this] at h; exact h
    · rename_i hu
      rcases onSlice_ok h with q | ⟨a, n, c, hv, h⟩
      · cases q
      exact ⟨_, _, _, aoper_pure (by rw [ho]; rfl) (by rw [ho]; simp only [apure, evs, kev_ok hT hx, hv, hty, alen, hu]; rfl), h⟩
    · exact kslow_ok E _ N t T σ kc call K r o ho hT hc h
  · exact kslow_ok E _ N t T σ kc call K r o ho hT hc h
def kappend (E : Env) (ts : Array TypeId) (x y : Operand) : KOp := match kev E x, kev E y with
  | some g, some gy => ⟨fun kc t σ K => onSome (aappend E { σ with ws := [] } ts (g.run t) (gy.run t)) fun r => Prod.rec (motive := fun _ => KR) (fun v p => Prod.rec (motive := fun _ => KR) (fun σ' _ => K v { σ' with ws := σ'.ws ++ σ.ws } (.all (olds σ.next σ'.ws))) p) r⟩
  | _, _ => kfail
theorem kappend_ok (E : Env) (x y : Operand) (ts : Array TypeId) : KOpOk E (kappend E ts x y) (.call ⟨.builtin .append, #[x, y], ts⟩) := by
  intro N t T σ kc call K r o ho hT hc h
  unfold kappend at h
  split at h
  · rename_i g gy hx hy
    obtain ⟨⟨v, σ', l⟩, h1, h2⟩ := onSome_ok h
    refine ⟨_, _, _, ?_, h2⟩
    unfold aoper
    rw [ho]
    have e : evs E T [x, y] = some [g.run t, gy.run t] := by simp only [evs, kev_ok hT hx, kev_ok hT hy]
    simp only [acallee, apure, aalloc, amem, e, h1, Option.map_some, amemFoot]
  · cases h
/-- A bound of a string's part: nothing, or a number. -/
def kbound (E : Env) : Option Operand → Option (Option KEv)
  | none => some none
  | some x => match kev E x with
    | some g => some (some g)
    | none => none
def ksliceS (E : Env) (ty : TypeId) (x : Operand) (lo hi : Option Operand) : KOp := match kev E x, kbound E lo, kbound E hi, E.und ty with
  | some g, some none, some none, some .string => ⟨fun kc t σ K => onStr (g.run t) (fun s => K (.string s) σ .pure) none⟩
  | some g, some (some gl), some none, some .string => ⟨fun kc t σ K => onStr (g.run t) (fun s => onNum (gl.run t) (fun _ l => onTrue (Nat.ble l s.data.toList.length) (K (.string ⟨⟨s.data.toList.drop l⟩⟩) σ .pure)) none) none⟩
  | some g, some none, some (some gh), some .string => ⟨fun kc t σ K => onStr (g.run t) (fun s => onNum (gh.run t) (fun _ h => onTrue (Nat.ble h s.data.toList.length) (K (.string ⟨⟨s.data.toList.take h⟩⟩) σ .pure)) none) none⟩
  | some g, some (some gl), some (some gh), some .string => ⟨fun kc t σ K => onStr (g.run t) (fun s => onNum (gl.run t) (fun _ l => onNum (gh.run t) (fun _ h => onTrue (Nat.ble l h) (onTrue (Nat.ble h s.data.toList.length) (K (.string ⟨⟨(s.data.toList.drop l).take (Nat.sub h l)⟩⟩) σ .pure))) none) none) none⟩
  | _, _, _, _ => kslow E (.slice ty x lo hi none)
theorem bextract (s : ByteArray) (l h : Nat) : s.extract l h = ⟨⟨(s.data.toList.drop l).take (h - l)⟩⟩ := by
  have e1 := ByteArray.data_extract (a := s) (b := l) (e := h)
  have e2 : (s.data.extract l h).toList = (s.data.toList.drop l).take (h - l) := by simp [List.extract]
  generalize s.extract l h = c at e1
  cases c with | mk d => cases d with | mk ls => simp only at e1; rw [← e2, ← e1]
theorem abounds_nn (n : Nat) : abounds n n none none none = some (0, n, n) := rfl
theorem abounds_ln {n l : Nat} {v : Value} (h : abound v n = some l) : abounds n n (some v) none none = some (l, n, n) := by delta abounds; simp only [h]
theorem abounds_nh {n l : Nat} {v : Value} (h : abound v n = some l) : abounds n n none (some v) none = some (0, l, n) := by delta abounds; simp only [h]
theorem abounds_lh {n l m : Nat} {v w : Value} (h : abound v n = some m) (h2 : abound w m = some l) : abounds n n (some w) (some v) none = some (l, m, n) := by delta abounds; simp only [h, h2]
theorem ksliceS_ok (E : Env) (ty : TypeId) (x : Operand) (lo hi : Option Operand) : KOpOk E (ksliceS E ty x lo hi) (.slice ty x lo hi none) := by
  intro N t T σ kc call K r o ho hT hc h
  have bn : ∀ {y : Option Operand}, kbound E y = some none → evOpt E T y = some none := by
    intro y hy
    cases y with
    | none => rfl
    | some z => simp only [kbound] at hy; cases hz : kev E z <;> rw [hz] at hy <;> cases hy
  have bs : ∀ {y : Option Operand} {g : KEv}, kbound E y = some (some g) → evOpt E T y = some (some (g.run t)) := by
    intro y g hy
    cases y with
    | none => cases hy
    | some z =>
      simp only [kbound] at hy
      cases hz : kev E z with
      | none => rw [hz] at hy; cases hy
      | some g' => rw [hz] at hy; cases hy; simp only [evOpt, kev_ok hT hz, Option.map_some]
  have len : ∀ s : ByteArray, s.data.toList.length = s.size := fun s => Array.length_toList
  have hm : evOpt E T none = some none := rfl
  have nb : ∀ {i n : Nat} {k : IntKind}, i ≤ n → abound (.int k (Int.ofNat i)) n = some i := by
    intro i n k h
    have hb : (decide ((0 : Int) ≤ Int.ofNat i) && decide ((Int.ofNat i : Int) ≤ (n : Int))) = true := by
      rw [Bool.and_eq_true, decide_eq_true_eq, decide_eq_true_eq]
      exact ⟨Int.natCast_nonneg i, Int.ofNat_le.2 h⟩
    simp only [abound, hb, cond_true]; rfl
  unfold ksliceS at h
  split at h
  · rename_i g hx hl hh hu
    rcases onStr_ok h with q | ⟨s, hv, h⟩
    · cases q
    refine ⟨_, _, _, aoper_pure (by rw [ho]; rfl) (by rw [ho]; simp only [apure, kev_ok hT hx, bn hl, bn hh, hm, hv, aslice, hu, abounds_nn, Option.map_some]; rfl), ?_⟩
    have : s.extract 0 s.size = s := by
      rw [bextract, List.drop_zero, Nat.sub_zero, ← len, List.take_length]
    rw [this]; exact h
  · rename_i g gl hx hl hh hu
    rcases onStr_ok h with q | ⟨s, hv, h⟩
    · cases q
    rcases onNum_ok h with q | ⟨k, l, hw, h⟩
    · cases q
    obtain ⟨hb, h⟩ := onTrue_ok h
    have hb := Nat.le_of_ble_eq_true hb
    rw [len] at hb
    refine ⟨_, _, _, aoper_pure (by rw [ho]; rfl) (by rw [ho]; simp only [apure, kev_ok hT hx, bs hl, bn hh, hm, hv, hw, aslice, hu, abounds_ln (nb hb), Option.map_some]; rfl), ?_⟩
    have : s.extract l s.size = ⟨⟨s.data.toList.drop l⟩⟩ := by
      rw [bextract]
      have : (s.data.toList.drop l).take (s.size - l) = s.data.toList.drop l := List.take_of_length_le (by rw [List.length_drop, len]; omega)
      rw [this]
    rw [this]; exact h
  · rename_i g gh hx hl hh hu
    rcases onStr_ok h with q | ⟨s, hv, h⟩
    · cases q
    rcases onNum_ok h with q | ⟨k, l, hw, h⟩
    · cases q
    obtain ⟨hb, h⟩ := onTrue_ok h
    have hb := Nat.le_of_ble_eq_true hb
    rw [len] at hb
    refine ⟨_, _, _, aoper_pure (by rw [ho]; rfl) (by rw [ho]; simp only [apure, kev_ok hT hx, bs hh, bn hl, hm, hv, hw, aslice, hu, abounds_nh (nb hb), Option.map_some]; rfl), ?_⟩
    rw [bextract, List.drop_zero, Nat.sub_zero]; exact h
  · rename_i g gl gh hx hl hh hu
    rcases onStr_ok h with q | ⟨s, hv, h⟩
    · cases q
    rcases onNum_ok h with q | ⟨k, l, hw, h⟩
    · cases q
    rcases onNum_ok h with q | ⟨j, m, hw2, h⟩
    · cases q
    obtain ⟨hb, h⟩ := onTrue_ok h
    have hb := Nat.le_of_ble_eq_true hb
    obtain ⟨hb2, h⟩ := onTrue_ok h
    have hb2 := Nat.le_of_ble_eq_true hb2
    rw [len] at hb2
    refine ⟨_, _, _, aoper_pure (by rw [ho]; rfl) (by rw [ho]; simp only [apure, kev_ok hT hx, bs hh, bs hl, hm, hv, hw, hw2, aslice, hu, abounds_lh (nb hb2) (nb hb), Option.map_some]; rfl), ?_⟩
    rw [bextract]; exact h
  · exact kslow_ok E _ N t T σ kc call K r o ho hT hc h

def onIter (o : Option AObj) (f : ByteArray → Nat → KR) : KR := Option.rec (motive := fun _ => KR) none (fun x => AObj.rec (motive := fun _ => KR) (fun _ _ _ => none) (fun _ _ => none) f (fun _ _ _ _ => none) none x) o
theorem onIter_ok {o : Option AObj} {f : ByteArray → Nat → KR} {r : Value × AS} (h : onIter o f = some r) : ∃ s p, o = some (.iter s p) ∧ f s p = some r := by
  cases o with
  | none => cases h
  | some x => cases x <;> first | (cases h; done) | exact ⟨_, _, rfl, h⟩
def knext (E : Env) (it : Operand) (str : Bool) : KOp := match str, kev E it with
  | true, some g => ⟨fun _ t σ K => onPtr (g.run t) fun b o => onTrue (Nat.beq o 0) (onIter (σ.heap.getR b) fun s p =>
      Bool.rec (motive := fun _ => KR) (K (.tuple #[.bool false]) σ (.all []))
        (K (.tuple #[.bool true, .int .i64 (Int.ofNat p), .int .i32 (Int.ofNat (Utf8.decode s p).1)]) (σ.put b (.iter s (Nat.add p (Utf8.decode s p).2))) (.all (olds σ.next [b]))) (Nat.ble (Nat.succ p) s.size))⟩
  | _, _ => kslow E (.next it str)
theorem knext_ok (E : Env) (it : Operand) (str : Bool) : KOpOk E (knext E it str) (.next it str) := by
  intro N t T σ kc call K r o ho hT hc h
  unfold knext at h
  split at h
  · rename_i g hg
    obtain ⟨b, of, hv, h⟩ := onPtr_ok h
    obtain ⟨h0, h⟩ := onTrue_ok h
    obtain rfl := Nat.eq_of_beq_eq_true h0
    obtain ⟨s, p, hi, h⟩ := onIter_ok h
    rw [Tr.getR_eq] at hi
    have hi' : AS.get { σ with ws := [] } b = some (.iter s p) := hi
    have hb : Nat.blt p s.size = Nat.ble (Nat.succ p) s.size := rfl
    rcases onNat_rec h with ⟨hlt, h⟩ | ⟨hlt, h⟩
    · refine ⟨_, _, _, ?_, h⟩
      unfold aoper
      rw [ho]
      simp only [acallee, apure, aalloc, amem, kev_ok hT hg, hv, hi', hb, hlt, cond_false, Option.map_some, amemFoot]
      rfl
    · refine ⟨_, _, _, ?_, h⟩
      unfold aoper
      rw [ho]
      simp only [acallee, apure, aalloc, amem, kev_ok hT hg, hv, hi', hb, hlt, cond_true, Option.map_some, amemFoot]
      rfl
  · exact kslow_ok E _ N t T σ kc call K r o ho hT hc h
def kunop (E : Env) (op : UnOp) (t : TypeId) (x : Operand) : KOp := match op with
  | .not => knot E t x
  | op => kslow E (.unOp op t x)
theorem kunop_ok (E : Env) (op : UnOp) (t : TypeId) (x : Operand) : KOpOk E (kunop E op t x) (.unOp op t x) := by
  cases op <;> first | exact knot_ok E _ _ | exact kslow_ok E _
def kslice (E : Env) (t : TypeId) (x : Operand) (lo hi mx : Option Operand) : KOp := match mx with
  | none => ksliceS E t x lo hi
  | some m => kslow E (.slice t x lo hi (some m))
theorem kslice_ok (E : Env) (t : TypeId) (x : Operand) (lo hi mx : Option Operand) : KOpOk E (kslice E t x lo hi mx) (.slice t x lo hi mx) := by
  cases mx
  · exact ksliceS_ok E _ _ _ _
  · exact kslow_ok E _
def kbuiltin (E : Env) (b : Builtin) (args ts : Array TypeId) (l : List Operand) (sl : KOp) : KOp := match b with
  | .len => match l with
    | [x] => klenop E #[] ts x sl
    | _ => sl
  | .append => match l with
    | [x, y] => kappend E ts x y
    | _ => sl
  | _ => sl
def kcallany (E : Env) (c : Call) : KOp := match c.callee with
  | .value f => kcallop E f c.args.toList
  | .builtin b => kbuiltin E b #[] c.argTypes c.args.toList (kslow E (.call c))
  | _ => kslow E (.call c)
theorem kcallany_ok (E : Env) (c : Call) : KOpOk E (kcallany E c) (.call c) := by
  obtain ⟨callee, args, ts⟩ := c
  cases callee with
  | value f => exact kcallop_ok E f args ts
  | invoke _ _ => exact kslow_ok E _
  | builtin b =>
    show KOpOk E (kbuiltin E b #[] ts args.toList (kslow E (.call ⟨.builtin b, args, ts⟩))) _
    cases b with
    | len =>
      simp only [kbuiltin]
      split
      · rename_i x hl
        obtain rfl : args = #[x] := Array.ext' (by simpa using hl)
        exact klenop_ok E x ts #[]
      · exact kslow_ok E _
    | append =>
      simp only [kbuiltin]
      split
      · rename_i x y hl
        obtain rfl : args = #[x, y] := Array.ext' (by simpa using hl)
        exact kappend_ok E x y ts
      · exact kslow_ok E _
    | _ => exact kslow_ok E _
/-- An operation, laid out. -/
def kop (E : Env) (op : Op) : KOp :=
  match op with
  | .move x => kmove E x
  | .assign x => kmove E x
  | .binOp op t x y _ => kbinop E op t x y
  | .pick c a b => kpick E c a b
  | .fieldAddr s x f => kfieldAddr E s x f
  | .load t x => kloadop E t x
  | .store t x y => kstoreop E t x y
  | .alloc e => kalloc E e
  | .box e x => kbox E e x
  | .nilCheck x => knilCheck E x
  | .convert s d x => kconvert E s d x
  | .field t x f => kfield E t x f
  | .extract x i => kextract E x i
  | .indexAddr t x i => kindexAddr E t x i
  | .index t x i => kindex E t x i
  | .unOp u t x => kunop E u t x
  | .next it str => knext E it str
  | .slice t x lo hi mx => kslice E t x lo hi mx
  | .call c => kcallany E c
  | op => kslow E op
theorem kop_ok (E : Env) (op : Op) : KOpOk E (kop E op) op := by
  cases op with
  | move x => exact (kmove_ok E _).1
  | assign x => exact (kmove_ok E _).2
  | binOp op t x y u => exact kbinop_ok E op t u x y
  | pick c a b => exact kpick_ok E _ _ _
  | fieldAddr s x f => exact kfieldAddr_ok E _ _ _
  | load t x => exact kloadop_ok E _ _
  | store t x y => exact kstoreop_ok E _ _ _
  | alloc e => exact kalloc_ok E _
  | box e x => exact kbox_ok E _ _
  | nilCheck x => exact knilCheck_ok E _
  | convert s d x => exact kconvert_ok E _ _ _
  | field t x f => exact kfield_ok E _ _ _
  | extract x i => exact kextract_ok E _ _
  | indexAddr t x i => exact kindexAddr_ok E _ _ _
  | index t x i => exact kindex_ok E _ _ _
  | unOp u t x => exact kunop_ok E _ _ _
  | next it str => exact knext_ok E _ _
  | slice t x lo hi mx => exact kslice_ok E _ _ _ _ _
  | call c => exact kcallany_ok E c
  | _ => exact kslow_ok E _
end
end Go.VAbs

/-! The machine for the kernel, part 7: regions, code, functions. -/
namespace Go.VAbs
open Go
set_option linter.unusedVariables false
noncomputable section
set_option linter.unusedSimpArgs false

/-- Where what comes out goes. -/
def kdst (N : Nat) : Option Nat → Option KPut
  | none => some ⟨fun t _ K => K t⟩
  | some d => cond (Nat.blt d N) (cond (Nat.blt d 256) (some (kput d)) none) none
def kdone (dst : Option Nat) (t : KT) (v : Value) : KT := match dst with
  | none => t
  | some d => t.put d v
theorem kdst_ok {N : Nat} {dst : Option Nat} {p : KPut} (h : kdst N dst = some p) {t : KT} {T : ATmps} (hT : KRel N t T) (v : Value) : (∃ T', T.put dst v = some T' ∧ KRel N (kdone dst t v) T') ∧ (∀ K, p.run t v K = K (kdone dst t v)) ∧ ∀ d, dst = some d → d < 256 := by
  cases dst with
  | none => cases h; exact ⟨⟨T, rfl, hT⟩, fun _ => rfl, fun d q => by cases q⟩
  | some d =>
    simp only [kdst, cond_eq_ite] at h
    split at h
    · rename_i h1
      split at h
      · rename_i h2
        cases h
        obtain ⟨T', h3, h4⟩ := hT.put (Nat.blt_eq.mp h1) (Nat.blt_eq.mp h2) v
        exact ⟨⟨T', h3, h4⟩, fun K => kput_eq _ _ _ _, fun e q => by cases q; exact Nat.blt_eq.mp h2⟩
      · cases h
    · cases h

/-- Truth values that are known, by temporaries. -/
abbrev Known := List (Nat × Bool)
def Known.at (g : Nat) : Known → Option Bool
  | [] => none
  | x :: r => cond (Nat.beq x.1 g) (some x.2) (Known.at g r)
def Known.drop (d : Nat) : Known → Known
  | [] => []
  | x :: r => cond (Nat.beq x.1 d) (Known.drop d r) (x :: Known.drop d r)
def Known.behind (dst : Option Nat) (F : Known) : Known := match dst with
  | none => F
  | some d => F.drop d
def Known.ok (F : Known) (t : KT) : Prop := ∀ g b, (g, b) ∈ F → g < 256 ∧ t.get g = .bool b
theorem Known.at_ok : ∀ {F : Known} {g : Nat} {b : Bool}, F.at g = some b → (g, b) ∈ F
  | x :: r, g, b, h => by
    simp only [Known.at, cond_eq_ite] at h
    split at h
    · rename_i q
      have := Nat.eq_of_beq_eq_true q
      cases h
      exact List.mem_cons.2 (.inl (by rw [← this]))
    · exact List.mem_cons.2 (.inr (Known.at_ok h))
theorem Known.mem_drop : ∀ {F : Known} {d g : Nat} {b : Bool}, (g, b) ∈ F.drop d → g ≠ d ∧ (g, b) ∈ F
  | x :: r, d, g, b, h => by
    simp only [Known.drop, cond_eq_ite] at h
    split at h
    · obtain ⟨h1, h2⟩ := Known.mem_drop h; exact ⟨h1, List.mem_cons.2 (.inr h2)⟩
    · rename_i q
      rcases List.mem_cons.1 h with h | h
      · subst h; exact ⟨fun e => q (by rw [e]; exact Nat.beq_refl _), List.mem_cons.2 (.inl rfl)⟩
      · obtain ⟨h1, h2⟩ := Known.mem_drop h; exact ⟨h1, List.mem_cons.2 (.inr h2)⟩
theorem Known.ok.behind {F : Known} {t : KT} (h : F.ok t) {dst : Option Nat} (hd : ∀ d, dst = some d → d < 256) (v : Value) : (F.behind dst).ok (kdone dst t v) := by
  intro g b hm
  cases dst with
  | none => exact h g b hm
  | some d =>
    obtain ⟨h1, h2⟩ := Known.mem_drop hm
    obtain ⟨h3, h4⟩ := h g b h2
    exact ⟨h3, by show (t.put d v).get g = _; rw [KT.get_put _ _ _ _ (hd d rfl) h3, if_neg h1]; exact h4⟩
theorem Known.ok.cons {F : Known} {t : KT} (h : F.ok t) {g : Nat} {b : Bool} (hg : g < 256) (hv : t.get g = .bool b) : Known.ok ((g, b) :: F) t := by
  intro g' b' hm
  rcases List.mem_cons.1 hm with q | q
  · cases q; exact ⟨hg, hv⟩
  · exact h g' b' q
/-- A choice that is known is a move. -/
def kopF (E : Env) (F : Known) (op : Op) : KOp := match op with
  | .pick c a b => match c with
    | .tmp g => match F.at g with
      | some true => kmove E a
      | some false => kmove E b
      | none => kop E (.pick c a b)
    | _ => kop E (.pick c a b)
  | op => kop E op
theorem kopF_ok (E : Env) (F : Known) (op : Op) {N : Nat} {t : KT} {T : ATmps} {σ : AS} {kc : KCall} {call : ACall} {K : Value → AS → Foot → KR} {r : Value × AS} {o : Oper} (ho : o.op = op) (hT : KRel N t T) (hc : KCallOk kc call) (hF : F.ok t)
    (h : (kopF E F op).run kc t σ K = some r) : ∃ v σ' ft, aoper E call T o σ = some (v, σ', ft) ∧ K v σ' ft = some r := by
  have gen : (kop E op).run kc t σ K = some r → ∃ v σ' ft, aoper E call T o σ = some (v, σ', ft) ∧ K v σ' ft = some r := fun h => kop_ok E op N t T σ kc call K r o ho hT hc h
  cases op with
  | pick c a b =>
    cases c with
    | tmp g =>
      simp only [kopF] at h
      split at h
      · rename_i hb
        obtain ⟨h1, h2⟩ := hF _ _ (Known.at_ok hb)
        unfold kmove at h
        split at h
        · rename_i ga hg
          exact ⟨_, _, _, aoper_pure (by rw [ho]; rfl) (by rw [ho]; simp only [apure, ev, hT.2 g h1, h2]; exact kev_ok hT hg), h⟩
        · cases h
      · rename_i hb
        obtain ⟨h1, h2⟩ := hF _ _ (Known.at_ok hb)
        unfold kmove at h
        split at h
        · rename_i ga hg
          exact ⟨_, _, _, aoper_pure (by rw [ho]; rfl) (by rw [ho]; simp only [apure, ev, hT.2 g h1, h2]; exact kev_ok hT hg), h⟩
        · cases h
      · exact gen h
    | _ => exact gen h
  | _ => exact gen h
/-- A truth value, and which; else z. -/
def onGuard3 (v : Value) (x y z : KR) : KR := View.rec (motive := fun _ => KR) (fun _ _ => z) (fun _ _ => z) (fun _ => z) (fun b => Bool.rec (motive := fun _ => KR) y x b) (fun _ _ => z) (fun _ _ _ => z) (fun _ _ _ => z) (fun _ => z) (fun _ => z) z (view v)
theorem onGuard3_eq (v : Value) (x y z : KR) : onGuard3 v x y z = (match v with | .bool true => x | .bool false => y | _ => z) := by
  cases v with
  | bool b => cases b <;> rfl
  | int k n => cases n <;> rfl
  | pointer p =>
    cases p with
    | none => rfl
    | some a => obtain ⟨b, o, s⟩ := a; cases s <;> rfl
  | func f a b => cases f <;> rfl
  | _ => rfl

structure KReg where run : KCall → KT → AS → List Foot → (KT → AS → List Foot → KR) → KR
def kregFail : KReg := ⟨fun _ _ _ _ _ => none⟩
def kreg (E : Env) (N : Nat) (ops : Array Oper) (F : Known) : List Oper → KReg
  | [] => ⟨fun _ t σ fs K => K t σ fs⟩
  | o :: r => match kdst N o.dst with
    | none => kregFail
    | some p => match o.guard with
      | none => ⟨fun kc t σ fs K => (kopF E F o.op).run kc t σ fun v σ' f => p.run t v fun t' => (kreg E N ops (F.behind o.dst) r).run kc t' σ' (f :: fs) K⟩
      | some (j, want) => match (ops[j]?).bind (·.dst) with
        | none => kregFail
        | some g => match Known.at g F with
          | some b => match b == want with
            | true => ⟨fun kc t σ fs K => (kopF E F o.op).run kc t σ fun v σ' f => p.run t v fun t' => (kreg E N ops (F.behind o.dst) r).run kc t' σ' (f :: fs) K⟩
            | false => ⟨fun kc t σ fs K => p.run t undef fun t' => (kreg E N ops (F.behind o.dst) r).run kc t' σ (.pure :: fs) K⟩
          | none => cond (Nat.blt g 256) (match want with
            | true => ⟨fun kc t σ fs K => onGuard3 ((kget g).run t)
              ((kopF E ((g, true) :: F) o.op).run kc t σ fun v σ' f => p.run t v fun t' => (kreg E N ops (Known.behind o.dst ((g, true) :: F)) r).run kc t' σ' (f :: fs) K)
              (p.run t undef fun t' => (kreg E N ops (Known.behind o.dst ((g, false) :: F)) r).run kc t' σ (.pure :: fs) K)
              (p.run t undef fun t' => (kreg E N ops (F.behind o.dst) r).run kc t' σ (.pure :: fs) K)⟩
            | false => ⟨fun kc t σ fs K => onGuard3 ((kget g).run t)
              (p.run t undef fun t' => (kreg E N ops (Known.behind o.dst ((g, true) :: F)) r).run kc t' σ (.pure :: fs) K)
              ((kopF E ((g, false) :: F) o.op).run kc t σ fun v σ' f => p.run t v fun t' => (kreg E N ops (Known.behind o.dst ((g, false) :: F)) r).run kc t' σ' (f :: fs) K)
              (p.run t undef fun t' => (kreg E N ops (F.behind o.dst) r).run kc t' σ (.pure :: fs) K)⟩) kregFail
theorem kreg_ok (E : Env) (N : Nat) (ops : Array Oper) {kc : KCall} {call : ACall} (hc : KCallOk kc call) : ∀ (l : List Oper) (F : Known) (t : KT) (T : ATmps) (σ : AS) (acc : List Foot) (K : KT → AS → List Foot → KR) (r : Value × AS),
    KRel N t T → F.ok t → (kreg E N ops F l).run kc t σ acc K = some r → ∃ T' t' σ' fs, aops E call ops l T σ = some (T', σ', fs) ∧ KRel N t' T' ∧ K t' σ' (fs.reverse ++ acc) = some r
  | [], F, t, T, σ, acc, K, r, hT, hF, h => ⟨T, t, σ, [], rfl, hT, h⟩
  | o :: l, F, t, T, σ, acc, K, r, hT, hF, h => by
    have ih := fun F t T σ acc K r => kreg_ok E N ops hc l F t T σ acc K r
    have run : ∀ (F : Known) (p : KPut), F.ok t → kdst N o.dst = some p → awanted ops T o = some true → ((kopF E F o.op).run kc t σ fun v σ' f => p.run t v fun t' => (kreg E N ops (F.behind o.dst) l).run kc t' σ' (f :: acc) K) = some r →
        ∃ T' t' σ' fs, aops E call ops (o :: l) T σ = some (T', σ', fs) ∧ KRel N t' T' ∧ K t' σ' (fs.reverse ++ acc) = some r := by
      intro F p hF hp hw h
      obtain ⟨v, σ', f, h1, h2⟩ := kopF_ok E F o.op rfl hT hc hF h
      obtain ⟨⟨T1, h3, h4⟩, h5, h6⟩ := kdst_ok hp hT v
      rw [h5] at h2
      obtain ⟨T2, t2, σ2, fs, h7, h8, h9⟩ := ih (F.behind o.dst) _ T1 σ' _ _ _ h4 (hF.behind h6 v) h2
      refine ⟨T2, t2, σ2, f :: fs, ?_, h8, ?_⟩
      · simp only [aops, hw, h1, h3, h7]
      · rw [List.reverse_cons, List.append_assoc]; exact h9
    have skip : ∀ (F : Known) (p : KPut), F.ok t → kdst N o.dst = some p → awanted ops T o = some false → (p.run t undef fun t' => (kreg E N ops (F.behind o.dst) l).run kc t' σ (.pure :: acc) K) = some r →
        ∃ T' t' σ' fs, aops E call ops (o :: l) T σ = some (T', σ', fs) ∧ KRel N t' T' ∧ K t' σ' (fs.reverse ++ acc) = some r := by
      intro F p hF hp hw h
      obtain ⟨⟨T1, h3, h4⟩, h5, h6⟩ := kdst_ok hp hT undef
      rw [h5] at h
      obtain ⟨T2, t2, σ2, fs, h7, h8, h9⟩ := ih (F.behind o.dst) _ T1 σ _ _ _ h4 (hF.behind h6 undef) h
      refine ⟨T2, t2, σ2, .pure :: fs, ?_, h8, ?_⟩
      · simp only [aops, hw, h3, h7]
      · rw [List.reverse_cons, List.append_assoc]; exact h9
    unfold kreg at h
    split at h
    · cases h
    · rename_i p hp
      split at h
      · rename_i hg
        exact run F p hF hp (by unfold awanted; rw [hg]) h
      · rename_i j want hg
        split at h
        · cases h
        · rename_i g hd
          have hw : awanted ops T o = (match T.get g with | .bool b => some (b == want) | _ => some false) := by
            unfold awanted; rw [hg]; simp only [hd]; cases T.get g <;> rfl
          split at h
          · rename_i b hb
            obtain ⟨h1, h2⟩ := hF _ _ (Known.at_ok hb)
            rw [hT.2 g h1, h2] at hw
            simp only at hw
            split at h
            · rename_i hbw; rw [hbw] at hw; exact run F p hF hp hw h
            · rename_i hbw; rw [hbw] at hw; exact skip F p hF hp hw h
          · rw [cond_eq_ite] at h
            split at h
            · rename_i hb
              have hg256 := Nat.blt_eq.mp hb
              have hTg := hT.2 g hg256
              cases want with
              | true =>
                have h := h
                simp only at h
                rw [onGuard3_eq, kget_eq] at h
                rw [hTg] at hw
                generalize hv : t.get g = v at h hw
                cases v with
                | bool b =>
                  cases b with
                  | true => exact run _ p (hF.cons hg256 hv) hp hw h
                  | false => exact skip _ p (hF.cons hg256 hv) hp hw h
                | _ => exact skip F p hF hp hw h
              | false =>
                have h := h
                simp only at h
                rw [onGuard3_eq, kget_eq] at h
                rw [hTg] at hw
                generalize hv : t.get g = v at h hw
                cases v with
                | bool b =>
                  cases b with
                  | true => exact skip _ p (hF.cons hg256 hv) hp hw h
                  | false => exact run _ p (hF.cons hg256 hv) hp hw h
                | _ => exact skip F p hF hp hw h
            · cases h

structure KCode where run : KCall → Nat → KT → AS → (KT → AS → KR) → (Nat → KT → AS → KR) → (KT → AS → KR) → KR
def kcodeFail : KCode := ⟨fun _ _ _ _ _ _ _ => none⟩
def kloop (b : KCode) (kc : KCall) (k0 : Nat) (kx : Nat → KT → AS → KR) (kr : KT → AS → KR) (k : Nat) : KT → AS → KR :=
  Nat.rec (motive := fun _ => KT → AS → KR) (fun _ _ => none) (fun _ ih t σ => b.run kc k0 t σ ih kx kr) k
def kcode (E : Env) (N : Nat) : Code → KCode
  | .skip => ⟨fun _ _ t σ kn _ _ => kn t σ⟩
  | .label _ => ⟨fun _ _ t σ kn _ _ => kn t σ⟩
  | .region _ ops d => match d with
    | false => ⟨fun kc _ t σ kn _ _ => (kreg E N ops [] ops.toList).run kc t σ [] fun t σ _ => kn t σ⟩
    | true => match pairsOf ops with
      | [] => ⟨fun kc _ t σ kn _ _ => (kreg E N ops [] ops.toList).run kc t σ [] fun t σ _ => kn t σ⟩
      | p :: ps => ⟨fun kc _ t σ kn _ _ => (kreg E N ops [] ops.toList).run kc t σ [] fun t σ fs => onTrue (noClash fs.reverse (p :: ps)) (kn t σ)⟩
  | .seq a b => ⟨fun kc k t σ kn kx kr => (kcode E N a).run kc k t σ (fun t σ => (kcode E N b).run kc k t σ kn kx kr) kx kr⟩
  | .cond c a b => match kev E c with
    | some g => ⟨fun kc k t σ kn kx kr => onBool (g.run t) ((kcode E N a).run kc k t σ kn kx kr) ((kcode E N b).run kc k t σ kn kx kr)⟩
    | none => kcodeFail
  | .block id b => ⟨fun kc k t σ kn kx kr => (kcode E N b).run kc k t σ kn (fun i t σ => Bool.rec (motive := fun _ => KR) (kx i t σ) (kn t σ) (Nat.beq i id)) kr⟩
  | .loop b => ⟨fun kc k t σ _ kx kr => kloop (kcode E N b) kc k kx kr k t σ⟩
  | .scope b => kcode E N b
  | .exit id => ⟨fun _ _ t σ _ kx _ => kx id t σ⟩
  | .ret => ⟨fun _ _ t σ _ _ kr => kr t σ⟩
  | _ => kcodeFail
def kout (kn : KT → AS → KR) (kx : Nat → KT → AS → KR) (kr : KT → AS → KR) (e : AExit) (t : KT) (σ : AS) : KR := match e with
  | .normal => kn t σ
  | .exit i => kx i t σ
  | .ret => kr t σ
theorem kcode_ok (E : Env) (N : Nat) {kc : KCall} {call : ACall} (hc : KCallOk kc call) (k : Nat) : ∀ (c : Code) (t : KT) (T : ATmps) (σ : AS) (kn : KT → AS → KR) (kx : Nat → KT → AS → KR) (kr : KT → AS → KR) (r : Value × AS),
    KRel N t T → (kcode E N c).run kc k t σ kn kx kr = some r → ∃ e T' t' σ', acode E call k c T σ = some (e, T', σ') ∧ KRel N t' T' ∧ kout kn kx kr e t' σ' = some r := by
  intro c
  induction c with
  | skip => intro t T σ kn kx kr r hT h; exact ⟨.normal, T, t, σ, rfl, hT, h⟩
  | label l => intro t T σ kn kx kr r hT h; exact ⟨.normal, T, t, σ, rfl, hT, h⟩
  | exit id => intro t T σ kn kx kr r hT h; exact ⟨.exit id, T, t, σ, rfl, hT, h⟩
  | ret => intro t T σ kn kx kr r hT h; exact ⟨.ret, T, t, σ, rfl, hT, h⟩
  | region id ops d =>
    intro t T σ kn kx kr r hT h
    cases d with
    | false =>
      obtain ⟨T', t', σ', fs, h1, h2, h3⟩ := kreg_ok E N ops hc _ [] _ _ _ _ _ _ hT (fun _ _ q => by cases q) h
      exact ⟨.normal, T', t', σ', by simp only [acode, h1], h2, h3⟩
    | true =>
      simp only [kcode] at h
      split at h
      · rename_i hp
        obtain ⟨T', t', σ', fs, h1, h2, h3⟩ := kreg_ok E N ops hc _ [] _ _ _ _ _ _ hT (fun _ _ q => by cases q) h
        exact ⟨.normal, T', t', σ', by simp only [acode, h1, hp]; rfl, h2, h3⟩
      · rename_i p ps hp
        obtain ⟨T', t', σ', fs, h1, h2, h3⟩ := kreg_ok E N ops hc _ [] _ _ _ _ _ _ hT (fun _ _ q => by cases q) h
        obtain ⟨h4, h5⟩ := onTrue_ok h3
        rw [List.append_nil, List.reverse_reverse, ← hp] at h4
        exact ⟨.normal, T', t', σ', by simp only [acode, h1, h4, cond_true], h2, h5⟩
  | seq a b iha ihb =>
    intro t T σ kn kx kr r hT h
    obtain ⟨e, T', t', σ', h1, h2, h3⟩ := iha _ _ _ _ _ _ _ hT h
    cases e with
    | normal =>
      obtain ⟨e2, T2, t2, σ2, h4, h5, h6⟩ := ihb _ _ _ _ _ _ _ h2 h3
      exact ⟨e2, T2, t2, σ2, by simp only [acode, h1, h4], h5, h6⟩
    | exit i => exact ⟨.exit i, T', t', σ', by simp only [acode, h1], h2, h3⟩
    | ret => exact ⟨.ret, T', t', σ', by simp only [acode, h1], h2, h3⟩
  | cond c a b iha ihb =>
    intro t T σ kn kx kr r hT h
    simp only [kcode] at h
    split at h
    · rename_i g hg
      rcases onBool_ok h with ⟨e, h⟩ | ⟨e, h⟩
      · obtain ⟨e2, T2, t2, σ2, h4, h5, h6⟩ := iha _ _ _ _ _ _ _ hT h
        exact ⟨e2, T2, t2, σ2, by simp only [acode, kev_ok hT hg, e, h4], h5, h6⟩
      · obtain ⟨e2, T2, t2, σ2, h4, h5, h6⟩ := ihb _ _ _ _ _ _ _ hT h
        exact ⟨e2, T2, t2, σ2, by simp only [acode, kev_ok hT hg, e, h4], h5, h6⟩
    · cases h
  | block id b ih =>
    intro t T σ kn kx kr r hT h
    obtain ⟨e, T', t', σ', h1, h2, h3⟩ := ih _ _ _ _ _ _ _ hT h
    cases e with
    | normal => exact ⟨.normal, T', t', σ', by simp only [acode, h1], h2, h3⟩
    | ret => exact ⟨.ret, T', t', σ', by simp only [acode, h1], h2, h3⟩
    | exit i =>
      rcases onNat_rec h3 with ⟨hb, h3⟩ | ⟨hb, h3⟩
      · exact ⟨.exit i, T', t', σ', by simp only [acode, h1, hb, cond_false], h2, h3⟩
      · exact ⟨.normal, T', t', σ', by simp only [acode, h1, hb, cond_true], h2, h3⟩
  | loop b ih =>
    intro t T σ kn kx kr r hT h
    have key : ∀ (m : Nat) (t : KT) (T : ATmps) (σ : AS), KRel N t T → kloop (kcode E N b) kc k kx kr m t σ = some r →
        ∃ e T' t' σ', aloop (acode E call k b) m T σ = some (e, T', σ') ∧ KRel N t' T' ∧ kout kn kx kr e t' σ' = some r := by
      intro m
      induction m with
      | zero => intro t T σ hT h; cases h
      | succ m ihm =>
        intro t T σ hT h
        obtain ⟨e, T', t', σ', h1, h2, h3⟩ := ih _ _ _ _ _ _ _ hT h
        cases e with
        | normal =>
          obtain ⟨e2, T2, t2, σ2, h4, h5, h6⟩ := ihm _ _ _ h2 h3
          exact ⟨e2, T2, t2, σ2, by simp only [aloop, h1, h4], h5, h6⟩
        | exit i => exact ⟨.exit i, T', t', σ', by simp only [aloop, h1], h2, h3⟩
        | ret => exact ⟨.ret, T', t', σ', by simp only [aloop, h1], h2, h3⟩
    exact key k t T σ hT h
  | scope b ih =>
    intro t T σ kn kx kr r hT h
    obtain ⟨e, T', t', σ', h1, h2, h3⟩ := ih _ _ _ _ _ _ _ hT h
    exact ⟨e, T', t', σ', by simp only [acode, h1], h2, h3⟩
  | _ => intro t T σ kn kx kr r hT h; cases h

/-! ### Functions -/
structure KRes where run : KT → AS → (List Value → KR) → KR
def kresFail : KRes := ⟨fun _ _ _ => none⟩
def kres (E : Env) : List ResultVar → KRes
  | [] => ⟨fun _ _ K => K []⟩
  | .tmp i :: r => cond (Nat.blt i 256) ⟨fun t σ K => (kres E r).run t σ fun l => K ((kget i).run t :: l)⟩ kresFail
  | .cell a ty :: r => cond (Nat.blt a 256) ⟨fun t σ K => onPtr ((kget a).run t) fun b o => (kload E ty).run σ b o fun v => (kres E r).run t σ fun l => K (v :: l)⟩ kresFail
theorem kres_ok {E : Env} {N : Nat} {t : KT} {T : ATmps} (hT : KRel N t T) {σ : AS} : ∀ {l : List ResultVar} {K : List Value → KR} {r : Value × AS}, (kres E l).run t σ K = some r → ∃ vs, ares E T σ l = some vs ∧ K vs = some r
  | [], K, r, h => ⟨[], rfl, h⟩
  | .tmp i :: l, K, r, h => by
    simp only [kres, cond_eq_ite] at h
    split at h
    · rename_i hb
      obtain ⟨vs, h1, h2⟩ := kres_ok hT h
      refine ⟨T.get i :: vs, by simp only [ares, h1], ?_⟩
      rw [hT.2 i (Nat.blt_eq.mp hb), ← kget_eq]; exact h2
    · cases h
  | .cell a ty :: l, K, r, h => by
    simp only [kres, cond_eq_ite] at h
    split at h
    · rename_i hb
      obtain ⟨b, o, hv, h⟩ := onPtr_ok h
      obtain ⟨v, h3, h⟩ := kload_ok h
      obtain ⟨vs, h1, h2⟩ := kres_ok hT h
      refine ⟨v :: vs, ?_, h2⟩
      rw [kget_eq, ← hT.2 a (Nat.blt_eq.mp hb)] at hv
      simp only [ares, hv, h3, h1]
    · cases h
def kstart (args : List Value) : Nat → KT → (KT → KR) → KR :=
  List.rec (motive := fun _ => Nat → KT → (KT → KR) → KR) (fun _ t K => K t) (fun v _ ih i t K => onTrue (Nat.ble (Nat.succ i) 256) ((kput i).run t v fun t' => ih (Nat.succ i) t' K)) args
theorem kstart_ok : ∀ {args : List Value} {i : Nat} {t : KT} {tr : Tr Value} {K : KT → KR} {r : Value × AS}, (∀ j, j < 256 → (tr.get j).getD undef = t.get j) → kstart args i t K = some r →
    ∃ t', (∀ j, j < 256 → ((startTr args i tr).get j).getD undef = t'.get j) ∧ K t' = some r
  | [], i, t, tr, K, r, ht, h => ⟨t, ht, h⟩
  | v :: args, i, t, tr, K, r, ht, h => by
    have h : onTrue (Nat.ble (Nat.succ i) 256) ((kput i).run t v fun t' => kstart args (Nat.succ i) t' K) = some r := h
    obtain ⟨hb, h⟩ := onTrue_ok h
    have hb := Nat.le_of_ble_eq_true hb
    rw [kput_eq] at h
    refine kstart_ok (tr := tr.set i v) ?_ h
    intro j hj
    rw [Tr.get_set, KT.get_put _ _ _ _ hb hj]
    split
    · rfl
    · exact ht j hj
structure KSlot where run : KCall → Nat → List Value → AS → (Value → AS → KR) → KR
def kslotFail : KSlot := ⟨fun _ _ _ _ _ => none⟩
def kfunc (E : Env) (fn : Func) : KSlot := match fn.body with
  | none => kslotFail
  | some c => ⟨fun kc k args σ K => kstart args 0 kt0 fun t => (kcode E fn.ntmps c).run kc k t σ (fun t σ' => (kres E fn.results.toList).run t σ' fun l => K (resValue l) σ') (fun _ _ _ => none) (fun t σ' => (kres E fn.results.toList).run t σ' fun l => K (resValue l) σ')⟩
theorem kfunc_ok {E : Env} {fn : Func} {kc : KCall} {call : ACall} (hc : KCallOk kc call) {k : Nat} {args : List Value} {σ : AS} {K : Value → AS → KR} {r : Value × AS} (h : (kfunc E fn).run kc k args σ K = some r) :
    ∃ v σ', afunc E call k fn args σ = some (v, σ') ∧ K v σ' = some r := by
  unfold kfunc at h
  unfold afunc
  cases hb : fn.body with
  | none => rw [hb] at h; cases h
  | some c =>
    rw [hb] at h
    obtain ⟨t, h1, h⟩ := kstart_ok (tr := .e) (fun j hj => by rw [kt0_get]; rfl) h
    have hT : KRel fn.ntmps t { tr := startTr args 0 .e, size := args.length + (fn.ntmps - args.length) } := ⟨by show fn.ntmps ≤ args.length + (fn.ntmps - args.length); omega, h1⟩
    obtain ⟨e, T', t', σ', h2, h3, h4⟩ := kcode_ok E fn.ntmps hc k c _ _ _ _ _ _ _ hT h
    cases e with
    | exit i => cases h4
    | normal =>
      obtain ⟨vs, h5, h6⟩ := kres_ok h3 h4
      exact ⟨_, _, by simp only [h2, h5, Option.map_some], h6⟩
    | ret =>
      obtain ⟨vs, h5, h6⟩ := kres_ok h3 h4
      exact ⟨_, _, by simp only [h2, h5, Option.map_some], h6⟩
def kslot (E : Env) (n : Nat) : KSlot := match E.prim n with
  | some g => ⟨fun _ _ args σ K => onSome (g args σ) fun r => Prod.rec (motive := fun _ => KR) (fun v σ' => K v σ') r⟩
  | none => match E.fn n with
    | some fn => kfunc E fn
    | none => kslotFail
def kcall (E : Env) (k : Nat) : KCall :=
  Nat.rec (motive := fun _ => KCall) (fun _ _ _ _ => none) (fun k ih n args σ K => (kslot E n).run ih (Nat.succ k) args σ K) k
theorem kcall_ok (E : Env) : ∀ k, KCallOk (kcall E k) (acall E k)
  | 0 => by intro n args σ K r h; cases h
  | k + 1 => by
    have ih := kcall_ok E k
    intro n args σ K r h
    have h : (kslot E n).run (kcall E k) (k + 1) args σ K = some r := h
    unfold kslot at h
    simp only [acall]
    cases hp : E.prim n with
    | some g =>
      rw [hp] at h
      obtain ⟨⟨v, σ'⟩, h1, h2⟩ := onSome_ok h
      exact ⟨v, σ', h1, h2⟩
    | none =>
      rw [hp] at h
      cases hf : E.fn n with
      | none => rw [hf] at h; cases h
      | some fn =>
        rw [hf] at h
        exact kfunc_ok ih h
/-- What the kernel is asked. -/
def krun (E : Env) (k n : Nat) (args : List Value) (σ : AS) : KR := kcall E k n args σ fun v σ' => some (v, σ')
theorem krun_ok {E : Env} {k n : Nat} {args : List Value} {σ : AS} {r : Value × AS} (h : krun E k n args σ = some r) : acall E k n args σ = some r := by
  obtain ⟨v, σ', h1, h2⟩ := kcall_ok E k _ _ _ _ _ h
  cases h2; exact h1
/-- Its value alone. -/
def kval (E : Env) (k n : Nat) (args : List Value) (σ : AS) : Option Value := Option.rec (motive := fun _ => Option Value) none (fun r => some r.1) (kcall E k n args σ fun v _ => some (v, ⟨.e, 0, []⟩))
theorem kval_ok {E : Env} {k n : Nat} {args : List Value} {σ : AS} {v : Value} (h : kval E k n args σ = some v) : (acall E k n args σ).map (·.1) = some v := by
  unfold kval at h
  cases hr : (kcall E k n args σ fun v _ => some (v, (⟨.e, 0, []⟩ : AS))) with
  | none => rw [hr] at h; cases h
  | some r =>
    rw [hr] at h
    obtain ⟨u, σ', h1, h2⟩ := kcall_ok E k _ _ _ _ _ hr
    cases h2
    cases h
    rw [h1]; rfl
end
end Go.VAbs

/-! The abstract machine, part 35: functions of closed values, taken whole by what they answer. -/
namespace Go.VAbs
open Go Go.RowKit
set_option linter.unusedVariables false
noncomputable section
set_option linter.unusedSimpArgs false

def pFun (f : List Value → Option Value) (args : List Value) (σ : AS) : Option (Value × AS) :=
  match maxLenAt σ 0 with
  | some _ => cond (args.all closed) (match f args with
    | some v => some (v, σ)
    | none => none) none
  | none => none
theorem pFun_some {f : List Value → Option Value} {args : List Value} {σ σ' : AS} {v : Value} (h : pFun f args σ = some (v, σ')) : σ' = σ ∧ (∃ m, maxLenAt σ 0 = some m) ∧ args.all closed = true ∧ f args = some v := by
  unfold pFun at h
  split at h
  · rename_i m hm
    rw [cond_eq_ite] at h
    split at h
    · rename_i hc
      split at h
      · rename_i u hu
        simp only [Option.some.injEq, Prod.mk.injEq] at h
        obtain ⟨rfl, rfl⟩ := h
        exact ⟨rfl, ⟨m, hm⟩, hc, hu⟩
      · cases h
    · cases h
  · cases h
/-- What it answers on the least heap, it answers. -/
theorem fun_ok {E : Env} (hP : ProgOk E) {gM : Nat} (hg : E.glob = oneGlob gM) {n : Nat} {f : List Value → Option Value}
    (h : ∀ args v, (∀ x ∈ args, closed x = true) → f args = some v → closed v = true ∧ ∀ m : Int, ∃ k, (acall E k n args (start m)).map (·.1) = some v)
    {E' : Env} (hE' : E'.P = E.P) (hg' : E'.glob = E.glob) : PrimOk E' n (pFun f) := by
  constructor
  · intro args σ v0 σ' e
    obtain ⟨rfl, _⟩ := pFun_some e
    exact .refl _
  · intro args σ v0 σ' wf e
    obtain ⟨rfl, ⟨m, hm⟩, hcl, hf⟩ := pFun_some e
    have hcl' : ∀ x ∈ args, closed x = true := fun x hx => List.all_eq_true.1 hcl x hx
    obtain ⟨hv, hrun⟩ := h args v0 hcl' hf
    intro μ w args' hG hR hfree hargs
    have ha : args' = args.toArray := by
      refine Array.ext hargs.1.symm ?_
      intro i h1 h2
      have hi : args[i]? = some args.toArray[i] := by
        have : i < args.length := by simpa using h2
        simp [this]
      exact (hargs.2 i _ _ (Array.getElem?_eq_getElem h2) (Array.getElem?_eq_getElem h1)).eq_of_closed (hcl' _ (List.mem_of_getElem? hi))
    subst ha
    have hgl : E'.glob gM = some 0 := by rw [hg', hg]; simp [oneGlob]
    have hc := maxLen_cell hgl hG hR hm
    have hmem : ∃ arr t fr, w.heap[gM]? = some (.cells arr t fr) := by
      unfold maxLenAt at hm
      split at hm
      · rename_i m0 ro gr hgg
        obtain ⟨l, h1, h2, h3⟩ := hG gM 0 hgl
        obtain ⟨arr, t, fr, k1, _⟩ := hR.obj 0 l _ h1 hgg
        exact ⟨arr, t, fr, by rw [← h2]; exact k1⟩
      · cases hm
    obtain ⟨k, hk⟩ := hrun m
    have := law_calls hP hg hv hcl' hc hmem hk
    rw [← hE'] at this
    refine this.mono ?_
    rintro ex w' ⟨rfl, hb⟩
    exact ⟨_, rfl, Sim.below hR hb _ _ (VRel.of_closed _ hv)⟩
/-- From the machine for the kernel. -/
theorem kcall_val {E : Env} {k n : Nat} {args : List Value} {σ : AS} {r : Value × AS} (h : kcall E k n args σ (fun v' _ => some (v', (⟨.e, 0, []⟩ : AS))) = some r) : (acall E k n args σ).map (·.1) = some r.1 := by
  obtain ⟨v', σ', h1, h2⟩ := kcall_ok E k _ _ _ _ _ h
  cases h2; rw [h1]; rfl
/-- The one, or the other. -/
def primOr (g h : List Value → AS → Option (Value × AS)) (args : List Value) (σ : AS) : Option (Value × AS) :=
  match g args σ with
  | some r => some r
  | none => h args σ
theorem primOr_ok {E : Env} {n : Nat} {g h : List Value → AS → Option (Value × AS)} (hg : PrimOk E n g) (hh : PrimOk E n h) : PrimOk E n (primOr g h) := by
  constructor
  · intro args σ v σ' e
    unfold primOr at e
    split at e
    · rename_i r hr; cases e; exact hg.1 _ _ _ _ hr
    · exact hh.1 _ _ _ _ e
  · intro args σ v σ' wf e
    unfold primOr at e
    split at e
    · rename_i r hr; cases e; exact hg.2 _ _ _ _ wf hr
    · exact hh.2 _ _ _ _ wf e

/-! ### Runs with what is not known -/
theorem P16.upd_self {α : Type} (p : P16 α) : ∀ d : Nat, p.upd (p.nth d) d = p
  | 0 => rfl
  | 1 => rfl
  | 2 => rfl
  | 3 => rfl
  | 4 => rfl
  | 5 => rfl
  | 6 => rfl
  | 7 => rfl
  | 8 => rfl
  | 9 => rfl
  | 10 => rfl
  | 11 => rfl
  | 12 => rfl
  | 13 => rfl
  | 14 => rfl
  | _ + 15 => rfl
theorem KT.put_self (t : KT) (i : Nat) : t.put i (t.get i) = t := by
  unfold KT.put KT.get; rw [P16.upd_self, P16.upd_self]
theorem KT.put_eq {t : KT} {i : Nat} {v : Value} (h : t.get i = v) : t.put i v = t := by rw [← h]; exact KT.put_self t i
theorem KT.get_put_ne (t : KT) {i j : Nat} (v : Value) (hi : i < 256) (hj : j < 256) (h : j ≠ i) : (t.put i v).get j = t.get j := by rw [KT.get_put _ _ _ _ hi hj, if_neg h]
theorem KT.get_put_eq (t : KT) {i : Nat} (v : Value) (hi : i < 256) : (t.put i v).get i = v := by rw [KT.get_put _ _ _ _ hi hi, if_pos rfl]
theorem kc_seq {E : Env} {N : Nat} {a b : Code} {kc : KCall} {k : Nat} {t : KT} {σ : AS} {kn : KT → AS → KR} {kx : Nat → KT → AS → KR} {kr : KT → AS → KR} :
    (kcode E N (.seq a b)).run kc k t σ kn kx kr = (kcode E N a).run kc k t σ (fun t σ => (kcode E N b).run kc k t σ kn kx kr) kx kr := rfl
theorem kc_block {E : Env} {N id : Nat} {b : Code} {kc : KCall} {k : Nat} {t : KT} {σ : AS} {kn : KT → AS → KR} {kx : Nat → KT → AS → KR} {kr : KT → AS → KR} :
    (kcode E N (.block id b)).run kc k t σ kn kx kr = (kcode E N b).run kc k t σ kn (fun i t σ => Bool.rec (motive := fun _ => KR) (kx i t σ) (kn t σ) (Nat.beq i id)) kr := rfl
theorem kc_loop {E : Env} {N : Nat} {b : Code} {kc : KCall} {k : Nat} {t : KT} {σ : AS} {kn : KT → AS → KR} {kx : Nat → KT → AS → KR} {kr : KT → AS → KR} :
    (kcode E N (.loop b)).run kc k t σ kn kx kr = kloop (kcode E N b) kc k kx kr k t σ := rfl
/-- The parts of a code. -/
def cA : Code → Code | .seq a _ => a | .block _ b => b | .loop b => b | c => c
def cB : Code → Code | .seq _ b => b | c => c
/-- All below a bound, for the kernel. -/
def upTo (f : Nat → Bool) : Nat → Bool := Nat.rec (motive := fun _ => Bool) true (fun n ih => Bool.rec (motive := fun _ => Bool) false ih (f n))
theorem upTo_ok {f : Nat → Bool} : ∀ {n : Nat}, upTo f n = true → ∀ i, i < n → f i = true
  | 0, _, i, hi => absurd hi (by omega)
  | n + 1, h, i, hi => by
    have h : Bool.rec (motive := fun _ => Bool) false (upTo f n) (f n) = true := h
    cases hf : f n with
    | false => rw [hf] at h; cases h
    | true =>
      rw [hf] at h
      rcases (by omega : i = n ∨ i < n) with rfl | q
      · exact hf
      · exact upTo_ok (n := n) h i q
theorem decode_pos (s : ByteArray) (p : Nat) : 1 ≤ (Utf8.decode s p).2 := by
  unfold Utf8.decode
  simp only
  repeat' split
  all_goals simp
theorem decode_low {s : ByteArray} {p : Nat} (h : (s.get! p).toNat < 128) : Utf8.decode s p = ((s.get! p).toNat, 1) := by
  unfold Utf8.decode
  simp only [Nat.add_zero]
  rw [if_pos h]
theorem decode_high {s : ByteArray} {p : Nat} (h : 128 ≤ (s.get! p).toNat) : 128 ≤ (Utf8.decode s p).1 := by
  unfold Utf8.decode
  simp only [Nat.add_zero]
  rw [if_neg (by omega)]
  have hr : Utf8.runeError = 65533 := rfl
  repeat' split
  all_goals (try simp only [hr])
  all_goals (try omega)
  all_goals (rename_i hc; try simp only [Bool.and_eq_true, decide_eq_true_eq, ge_iff_le] at hc; try omega)
end
end Go.VAbs

/-! The abstract machine, part 36: what code does not write stays: runs with continuations that agree where it matters are alike. -/
namespace Go.VAbs
open Go
set_option linter.unusedVariables false
noncomputable section
set_option linter.unusedSimpArgs false

/-- The same but for some places. -/
def Agree (D : List Nat) (t t' : KT) : Prop := ∀ i, i < 256 → memB i D = false → t'.get i = t.get i
theorem Agree.refl (D : List Nat) (t : KT) : Agree D t t := fun _ _ _ => rfl
def dstIn (D : List Nat) : Option Nat → Bool
  | none => true
  | some d => memB d D
def opsIn (D : List Nat) : List Oper → Bool
  | [] => true
  | o :: r => dstIn D o.dst && opsIn D r
def codeIn (D : List Nat) : Code → Bool
  | .region _ ops _ => opsIn D ops.toList
  | .seq a b | .cond _ a b => codeIn D a && codeIn D b
  | .block _ b | .loop b | .scope b => codeIn D b
  | _ => true
theorem kdone_agree {D : List Nat} {t0 t : KT} (h : Agree D t0 t) {dst : Option Nat} (hd : dstIn D dst = true) (hlt : ∀ d, dst = some d → d < 256) (v : Value) : Agree D t0 (kdone dst t v) := by
  cases dst with
  | none => exact h
  | some d =>
    intro i hi hm
    have hne : i ≠ d := by rintro rfl; rw [show memB i D = true from hd] at hm; cases hm
    show (t.put d v).get i = _
    rw [KT.get_put _ _ _ _ (hlt d rfl) hi, if_neg hne]; exact h i hi hm
theorem kdst_run {N : Nat} {dst : Option Nat} {p : KPut} (h : kdst N dst = some p) : (∀ d, dst = some d → d < 256) ∧ ∀ t v K, p.run t v K = K (kdone dst t v) := by
  cases dst with
  | none => cases h; exact ⟨fun d q => (by cases q), fun _ _ _ => rfl⟩
  | some d =>
    simp only [kdst, cond_eq_ite] at h
    split at h
    · split at h
      · rename_i h2
        cases h
        exact ⟨fun e q => (by cases q; exact Nat.blt_eq.mp h2), fun t v K => kput_eq _ _ _ _⟩
      · cases h
    · cases h

theorem kreg_frame (E : Env) (N : Nat) (ops : Array Oper) (D : List Nat) (t0 : KT) (kc : KCall) {K1 K2 : KT → AS → List Foot → KR} (hK : ∀ t' σ' fs, Agree D t0 t' → K1 t' σ' fs = K2 t' σ' fs) :
    ∀ (l : List Oper) (F : Known) (t : KT) (σ : AS) (acc : List Foot), opsIn D l = true → Agree D t0 t → (kreg E N ops F l).run kc t σ acc K1 = (kreg E N ops F l).run kc t σ acc K2
  | [], F, t, σ, acc, _, ht => hK t σ acc ht
  | o :: l, F, t, σ, acc, hD, ht => by
    simp only [opsIn, Bool.and_eq_true] at hD
    have ih := fun F t σ acc => kreg_frame E N ops D t0 kc hK l F t σ acc hD.2
    unfold kreg
    cases hp : kdst N o.dst with
    | none => rfl
    | some p =>
      obtain ⟨hlt, hrun⟩ := kdst_run hp
      have step : ∀ (F1 F2 : Known), (kopF E F1 o.op).run kc t σ (fun v σ' f => p.run t v fun t' => (kreg E N ops F2 l).run kc t' σ' (f :: acc) K1) =
          (kopF E F1 o.op).run kc t σ (fun v σ' f => p.run t v fun t' => (kreg E N ops F2 l).run kc t' σ' (f :: acc) K2) := by
        intro F1 F2
        congr 1
        funext v σ' f
        rw [hrun, hrun]
        exact ih _ _ _ _ (kdone_agree ht hD.1 hlt v)
      have skip : ∀ (F2 : Known), (p.run t undef fun t' => (kreg E N ops F2 l).run kc t' σ (.pure :: acc) K1) = (p.run t undef fun t' => (kreg E N ops F2 l).run kc t' σ (.pure :: acc) K2) := by
        intro F2
        rw [hrun, hrun]
        exact ih _ _ _ _ (kdone_agree ht hD.1 hlt undef)
      simp only
      cases o.guard with
      | none => exact step _ _
      | some g =>
        obtain ⟨j, want⟩ := g
        simp only
        cases (ops[j]?).bind (·.dst) with
        | none => rfl
        | some g =>
          simp only
          cases Known.at g F with
          | some b =>
            simp only
            cases b == want with
            | true => exact step _ _
            | false => exact skip _
          | none =>
            simp only
            cases Nat.blt g 256 with
            | false => rfl
            | true =>
              simp only [cond_true]
              cases want with
              | true => simp only; rw [onGuard3_eq, onGuard3_eq, step, skip, skip]
              | false => simp only; rw [onGuard3_eq, onGuard3_eq, step, skip, skip]
theorem kloop_frame {b : KCode} {kc : KCall} {k0 : Nat} {kx1 kx2 : Nat → KT → AS → KR} {kr1 kr2 : KT → AS → KR} {D : List Nat} {t0 : KT}
    (hb : ∀ (kn1 kn2 : KT → AS → KR) (t : KT) (σ : AS), (∀ t' σ', Agree D t0 t' → kn1 t' σ' = kn2 t' σ') → Agree D t0 t → b.run kc k0 t σ kn1 kx1 kr1 = b.run kc k0 t σ kn2 kx2 kr2) :
    ∀ (m : Nat) (t : KT) (σ : AS), Agree D t0 t → kloop b kc k0 kx1 kr1 m t σ = kloop b kc k0 kx2 kr2 m t σ
  | 0, _, _, _ => rfl
  | m + 1, t, σ, ht => hb _ _ t σ (fun t' σ' h => kloop_frame hb m t' σ' h) ht
/-- THE FRAME. -/
theorem kcode_frame (E : Env) (N : Nat) (D : List Nat) (kc : KCall) (k : Nat) (t0 : KT) : ∀ (c : Code) (kn1 kn2 : KT → AS → KR) (kx1 kx2 : Nat → KT → AS → KR) (kr1 kr2 : KT → AS → KR) (t : KT) (σ : AS),
    codeIn D c = true → (∀ t' σ', Agree D t0 t' → kn1 t' σ' = kn2 t' σ') → (∀ i t' σ', Agree D t0 t' → kx1 i t' σ' = kx2 i t' σ') → (∀ t' σ', Agree D t0 t' → kr1 t' σ' = kr2 t' σ') → Agree D t0 t →
    (kcode E N c).run kc k t σ kn1 kx1 kr1 = (kcode E N c).run kc k t σ kn2 kx2 kr2 := by
  intro c
  induction c with
  | skip => intro kn1 kn2 kx1 kx2 kr1 kr2 t σ _ h1 _ _ ht; exact h1 t σ ht
  | label l => intro kn1 kn2 kx1 kx2 kr1 kr2 t σ _ h1 _ _ ht; exact h1 t σ ht
  | exit id => intro kn1 kn2 kx1 kx2 kr1 kr2 t σ _ _ h2 _ ht; exact h2 id t σ ht
  | ret => intro kn1 kn2 kx1 kx2 kr1 kr2 t σ _ _ _ h3 ht; exact h3 t σ ht
  | region id ops d =>
    intro kn1 kn2 kx1 kx2 kr1 kr2 t σ hD h1 h2 h3 ht
    have hD : opsIn D ops.toList = true := hD
    cases d with
    | false => exact kreg_frame E N ops D t0 kc (fun t' σ' fs h => h1 t' σ' h) _ _ _ _ _ hD ht
    | true =>
      simp only [kcode]
      cases pairsOf ops with
      | nil => exact kreg_frame E N ops D t0 kc (fun t' σ' fs h => h1 t' σ' h) _ _ _ _ _ hD ht
      | cons p ps => exact kreg_frame E N ops D t0 kc (fun t' σ' fs h => by rw [h1 t' σ' h]) _ _ _ _ _ hD ht
  | seq a b iha ihb =>
    intro kn1 kn2 kx1 kx2 kr1 kr2 t σ hD h1 h2 h3 ht
    simp only [codeIn, Bool.and_eq_true] at hD
    exact iha _ _ _ _ _ _ t σ hD.1 (fun t' σ' h => ihb _ _ _ _ _ _ t' σ' hD.2 h1 h2 h3 h) h2 h3 ht
  | cond c a b iha ihb =>
    intro kn1 kn2 kx1 kx2 kr1 kr2 t σ hD h1 h2 h3 ht
    simp only [codeIn, Bool.and_eq_true] at hD
    simp only [kcode]
    cases kev E c with
    | none => rfl
    | some g =>
      simp only
      rw [iha kn1 kn2 kx1 kx2 kr1 kr2 t σ hD.1 h1 h2 h3 ht, ihb kn1 kn2 kx1 kx2 kr1 kr2 t σ hD.2 h1 h2 h3 ht]
  | block id b ih =>
    intro kn1 kn2 kx1 kx2 kr1 kr2 t σ hD h1 h2 h3 ht
    refine ih _ _ _ _ _ _ t σ hD h1 ?_ h3 ht
    intro i t' σ' h
    simp only [h1 t' σ' h, h2 i t' σ' h]
  | loop b ih =>
    intro kn1 kn2 kx1 kx2 kr1 kr2 t σ hD h1 h2 h3 ht
    exact kloop_frame (fun kn1 kn2 t σ h ht => ih _ _ _ _ _ _ t σ hD h h2 h3 ht) k t σ ht
  | scope b ih =>
    intro kn1 kn2 kx1 kx2 kr1 kr2 t σ hD h1 h2 h3 ht
    exact ih _ _ _ _ _ _ t σ hD h1 h2 h3 ht
  | _ => intro kn1 kn2 kx1 kx2 kr1 kr2 t σ _ _ _ _ _; rfl
end
end Go.VAbs

/-! The abstract machine, part 37: equality of rows of numbers that are the same. -/
namespace Go.VAbs
open Go
set_option linter.unusedVariables false

theorem pureRun_bind {α β : Type} (P : Program) (f : α → Sem β) : ∀ (s : Sem α) (a : α), pureRun P s = some a → pureRun P (s >>= f) = pureRun P (f a) := by
  intro s
  show ∀ (a : α), pureRun P s = some a → pureRun P (Sem.bind s f) = pureRun P (f a)
  induction s with
  | pure x => intro a h; cases h; rfl
  | program k ih => intro a h; exact ih P a h
  | mark x k ih => intro a h; exact ih a h
  | _ => intro a h; cases h
theorem pureRun_underlying {P : Program} {t : TypeId} {d : TypeDesc} (h : P.underlying t = some d) : pureRun P (underlying t) = some d := by
  unfold underlying
  have h1 : pureRun P program = some P := rfl
  rw [pureRun_bind P _ _ _ h1, h]; rfl
theorem pureRun_sizeOf {P : Program} {t : TypeId} {i : TypeInfo} (h : P.info? t = some i) : pureRun P (sizeOf t) = some i.size := by
  have h1 : pureRun P program = some P := rfl
  have h2 : pureRun P (typeInfo t) = some i := by
    unfold typeInfo
    rw [pureRun_bind P _ _ _ h1, h]; rfl
  unfold sizeOf
  rw [pureRun_bind P _ _ _ h2]; rfl
theorem pureRun_part {P : Program} {e : TypeId} {k : IntKind} (he : P.underlying e = some (.int k)) {cs : Array Value} {o : Nat} {v : Value} (h : cs[o]? = some v) : pureRun P (part e cs o) = some v := by
  have h1 : pureRun P (isAgg e) = some false := by
    unfold isAgg
    rw [pureRun_bind P _ _ _ (pureRun_underlying he)]; rfl
  unfold part
  rw [pureRun_bind P _ _ _ h1]
  simp only [Bool.false_eq_true, if_false, h]; rfl
theorem pureRun_eqInt {P : Program} {e : TypeId} {k : IntKind} (he : P.underlying e = some (.int k)) (d : Nat) (a : Int) : pureRun P (Op.equalIn (d + 1) e (.int k a) (.int k a)) = some true := by
  simp only [Op.equalIn]
  rw [pureRun_bind P _ _ _ (pureRun_underlying he)]
  simp [pureRun, pure]
theorem pureRun_forIn {P : Program} {σ : Type} (f : Nat → σ → Sem (ForInStep σ)) (b : σ) : ∀ (is : List Nat), (∀ j ∈ is, pureRun P (f j b) = some (.yield b)) → pureRun P (forIn is b f) = some b
  | [], _ => by rw [List.forIn_nil]; rfl
  | j :: is, h => by
    rw [List.forIn_cons, pureRun_bind P _ _ _ (h j (List.mem_cons_self ..))]
    exact pureRun_forIn f b is (fun x hx => h x (List.mem_cons_of_mem _ hx))
theorem pureRun_eqArr {P : Program} {t e : TypeId} {n : Nat} {k : IntKind} {i : TypeInfo} (ht : P.underlying t = some (.array n e)) (he : P.underlying e = some (.int k)) (hi : P.info? e = some i) (hs : i.size = 1) (zs : List Int) (hz : zs.length = n) (d : Nat) :
    pureRun P (Op.equalIn (d + 2) t (.agg ⟨zs.map (.int k)⟩) (.agg ⟨zs.map (.int k)⟩)) = some true := by
  rw [Op.equalIn]
  rw [pureRun_bind P _ _ _ (pureRun_underlying ht)]
  simp only
  rw [pureRun_bind P _ _ _ (pureRun_sizeOf hi), hs]
  simp only [Std.Legacy.Range.forIn_eq_forIn_range', Std.Legacy.Range.size, Nat.sub_zero, Nat.add_one_sub_one, Nat.div_one, Nat.mul_one]
  rw [pureRun_bind P _ _ _ (pureRun_forIn _ _ _ ?_)]
  · rfl
  · intro j hj
    have hj' : j < n := by simpa using hj
    have hc : (⟨zs.map (.int k)⟩ : Array Value)[j]? = some (.int k zs[j]) := by
      have : j < zs.length := by omega
      simp [this]
    rw [pureRun_bind P _ _ _ (pureRun_part he hc), pureRun_bind P _ _ _ (pureRun_part he hc), pureRun_bind P _ _ _ (pureRun_eqInt he d _)]
    rfl
theorem abin_eqArr {E : Env} {t e : TypeId} {n : Nat} {k : IntKind} {i : TypeInfo} (ht : E.P.underlying t = some (.array n e)) (he : E.P.underlying e = some (.int k)) (hi : E.P.info? e = some i) (hs : i.size = 1) (hg : E.P.eqGuardType E.P.depth t = false) (hn : ∀ a b : Array Value, nilEq E t (.agg a) (.agg b) = none)
    (zs : List Int) (hz : zs.length = n) (x y : Operand) : abin E .eql t x y (.agg ⟨zs.map (.int k)⟩) (.agg ⟨zs.map (.int k)⟩) = some (.bool true) := by
  unfold abin
  have h1 : (isLit (.agg ⟨zs.map (.int k)⟩) && isLit (.agg ⟨zs.map (.int k)⟩)) = false := rfl
  rw [h1, hn]
  have h2 : closed (.agg ⟨zs.map (.int k)⟩) = true := by
    show (List.map (Value.int k) zs).all (closedN 5) = true
    rw [List.all_map, List.all_eq_true]
    intro z _; rfl
  rw [h2]
  have h1 : pureRun E.P program = some E.P := rfl
  have h3 : pureRun E.P (eqGuard .eql t x y (.agg ⟨zs.map (.int k)⟩) (.agg ⟨zs.map (.int k)⟩)) = some () := by
    show pureRun E.P (program >>= fun p => program >>= fun p' => _) = _
    rw [pureRun_bind E.P _ _ _ h1, pureRun_bind E.P _ _ _ h1, hg]
    rfl
  have h4 : pureRun E.P (binOp .eql t (.agg ⟨zs.map (.int k)⟩) (.agg ⟨zs.map (.int k)⟩)) = some (.bool true) := by
    show pureRun E.P (Op.equal t (.agg ⟨zs.map (.int k)⟩) (.agg ⟨zs.map (.int k)⟩) >>= fun r => pure (Value.bool r)) = _
    have h5 : pureRun E.P (Op.equal t (.agg ⟨zs.map (.int k)⟩) (.agg ⟨zs.map (.int k)⟩)) = some true := pureRun_eqArr ht he hi hs zs hz 9998
    rw [pureRun_bind E.P _ _ _ h5]
    rfl
  show pureVal E.P (eqGuard .eql t x y (.agg ⟨zs.map (.int k)⟩) (.agg ⟨zs.map (.int k)⟩) >>= fun _ => binOp .eql t (.agg ⟨zs.map (.int k)⟩) (.agg ⟨zs.map (.int k)⟩)) = _
  unfold pureVal
  rw [pureRun_bind E.P _ _ _ h3, h4]
  rfl
end Go.VAbs

/-! The abstract machine, part 39: functions of one slice of closed values, taken whole by what they answer. -/
namespace Go.VAbs
open Go Go.RowKit
set_option linter.unusedVariables false
noncomputable section
set_option linter.unusedSimpArgs false

/-- g: how many cells an element has. -/
def pFun3 (g : Nat) (f : Nat → Nat → List Value → Option Value) (args : List Value) (σ : AS) : Option (Value × AS) :=
  match maxLenAt σ 0 with
  | some _ => match args with
    | [.slice (some ⟨b, 0, none⟩) len cap] => match σ.get b with
      | some (.cells c false (some g')) => cond (Nat.beq g' g && Nat.blt 0 len && c.all closed) (match f len cap c with
        | some v => some (v, σ)
        | none => none) none
      | _ => none
    | _ => none
  | none => none
theorem pFun3_some {g : Nat} {f : Nat → Nat → List Value → Option Value} {args : List Value} {σ σ' : AS} {v : Value} (h : pFun3 g f args σ = some (v, σ')) :
    σ' = σ ∧ (∃ m, maxLenAt σ 0 = some m) ∧ ∃ b len cap c, args = [.slice (some ⟨b, 0, none⟩) len cap] ∧ σ.get b = some (.cells c false (some g)) ∧ 0 < len ∧ (∀ x ∈ c, closed x = true) ∧ f len cap c = some v := by
  unfold pFun3 at h
  split at h
  · rename_i m hm
    split at h
    · rename_i b len cap
      split at h
      · rename_i c g' hb
        rw [cond_eq_ite] at h
        split at h
        · rename_i hc
          simp only [Bool.and_eq_true] at hc
          obtain ⟨⟨h1, h2⟩, h3⟩ := hc
          have := Nat.eq_of_beq_eq_true h1
          subst this
          split at h
          · rename_i u hu
            simp only [Option.some.injEq, Prod.mk.injEq] at h
            obtain ⟨rfl, rfl⟩ := h
            exact ⟨rfl, ⟨m, hm⟩, b, len, cap, c, rfl, hb, Nat.blt_eq.mp h2, fun x hx => List.all_eq_true.1 h3 x hx, hu⟩
          · cases h
        · cases h
      · cases h
    · cases h
  · cases h
theorem orel_ro {μ : Mu} {gM g : Nat} {l : Loc} {o : Option Obj} {c : List Value} (hc : ∀ x ∈ c, closed x = true) (h : ORel μ (.cells c false (some g)) l o) : ORel (startMu3 gM l) (.cells c true (some g)) l o := by
  obtain ⟨arr, t, fr, h1, h2, h3, h4, h5, _⟩ := h
  refine ⟨arr, t, fr, h1, h2, ?_, h4, h5, fun q => by cases q⟩
  intro i v v' hv hv'
  have hcl := hc v (List.mem_of_getElem? hv)
  have e := (h3 i v v' hv hv').eq_of_closed hcl
  subst e
  exact VRel.of_closed _ hcl
theorem fun_ok3 {E : Env} (hP : ProgOk E) {gM : Nat} (hg : E.glob = oneGlob gM) {n g : Nat} {f : Nat → Nat → List Value → Option Value}
    (h : ∀ len cap c v, 0 < len → (∀ x ∈ c, closed x = true) → f len cap c = some v → closed v = true ∧ ∀ m : Int, ∃ k, (acall E k n [.slice (some ⟨1, 0, none⟩) len cap] (start3 m c g)).map (·.1) = some v)
    {E' : Env} (hE' : E'.P = E.P) (hg' : E'.glob = E.glob) : PrimOk E' n (pFun3 g f) := by
  constructor
  · intro args σ v0 σ' e
    obtain ⟨rfl, _⟩ := pFun3_some e
    exact .refl _
  · intro args σ v0 σ' wf e
    obtain ⟨rfl, ⟨m, hm⟩, b, len, cap, c, rfl, hb, hlen, hcl, hf⟩ := pFun3_some e
    obtain ⟨hv, hrun⟩ := h len cap c v0 hlen hcl hf
    intro μ w args' hG hR hfree hargs
    have hgl : E'.glob gM = some 0 := by rw [hg', hg]; simp [oneGlob]
    have hc := maxLen_cell hgl hG hR hm
    have hmem : ∃ arr t fr, w.heap[gM]? = some (.cells arr t fr) := by
      unfold maxLenAt at hm
      split at hm
      · rename_i m0 ro gr hgg
        obtain ⟨l, h1, h2, h3⟩ := hG gM 0 hgl
        obtain ⟨arr, t, fr, k1, _⟩ := hR.obj 0 l _ h1 hgg
        exact ⟨arr, t, fr, by rw [← h2]; exact k1⟩
      · cases hm
    have hsz : args'.size = 1 := hargs.1.symm
    obtain ⟨v', rfl⟩ : ∃ v', args' = #[v'] := by
      obtain ⟨l⟩ := args'
      match l, hsz with
      | [v'], _ => exact ⟨v', rfl⟩
    have hv' : VRel μ (.slice (some ⟨b, 0, none⟩) len cap) v' := hargs.2 0 _ _ rfl rfl
    obtain ⟨l, hl, hrel⟩ : ∃ l, μ b = some l ∧ VRel (startMu3 gM l) (.slice (some ⟨1, 0, none⟩) len cap) v' := by
      cases hv' with
      | flat hh => simp [flat] at hh
      | slice hh =>
        rcases hh with ⟨h0, _⟩ | ⟨⟨l, h1, h2, h3⟩, h4⟩
        · omega
        · refine ⟨l, h1, .slice (.inr ⟨⟨l, rfl, rfl, h3⟩, h4.imp id ?_⟩)⟩
          rintro ⟨l', s, k1, k2⟩
          rw [h1] at k1; cases k1
          exact ⟨l, s, rfl, k2⟩
    obtain ⟨k, hk⟩ := hrun m
    have := law_calls3 hP hg hv hc hmem (hR.size b l hl) (orel_ro hcl (hR.obj b l _ hl hb)) (args := [.slice (some ⟨1, 0, none⟩) len cap]) (args' := #[v']) ⟨rfl, fun i x x' hx hx' => by
      cases i with
      | zero => cases hx; cases hx'; exact hrel
      | succ i => simp at hx⟩ hk
    rw [← hE'] at this
    refine this.mono ?_
    rintro ex w' ⟨rfl, hbl⟩
    exact ⟨_, rfl, Sim.below hR hbl _ _ (VRel.of_closed _ hv)⟩
end
end Go.VAbs

/-! The abstract machine, part 42: code with invariants: abstract states up to the blocks' names. -/
namespace Go.VAbs
open Go Go.RowKit
set_option linter.unusedVariables false
noncomputable section
set_option linter.unusedSimpArgs false

/-- A frame that stands as (T, σ) says; what lay in w0 lies as it lay, and what the run owns came behind. -/
structure AtW (E : Env) (w0 : World) (hi : Nat) (μ : Mu) (T : ATmps) (σ : AS) (a : Act) (w : World) : Prop extends CodeIn E hi μ T σ a w where
  below : Below w0.heap.size w0 w
  mine : ∀ b l, μ b = some l → Own σ.get b → w0.heap.size ≤ l.blk
def At (E : Env) (w0 : World) (hi : Nat) (T : ATmps) (σ : AS) (a : Act) (w : World) : Prop := ∃ μ, AtW E w0 hi μ T σ a w

theorem At.code {E : Env} (hP : ProgOk E) {call : ACall} (hc : CallOk E call) {k : Nat} {c : Code} (hwf : codeWf c = true) {w0 : World} {hi : Nat} {T T' : ATmps} {σ σ' : AS} {ex : AExit} (e : acode E call k c T σ = some (ex, T', σ')) (hle : σ'.next ≤ hi) {a : Act} {w : World} (h : At E w0 hi T σ a w) :
    c.wp E.P (fun e a' w' => e = ex.conc ∧ At E w0 hi T' σ' a' w') a w := by
  obtain ⟨μ, h⟩ := h
  have hx := acode_ext ⟨hc.ext⟩ k c T σ ex T' σ' e
  refine wp_mono (acode_sim hP.toEnvOk hP.mixed hc k c _ _ _ _ _ hi μ a w hwf e hle h.toCodeIn) ?_
  rintro e' a' w' ⟨rfl, hd, μ', f, r, n, kk⟩
  refine ⟨rfl, μ', ⟨h.gl.mono f.ext, kk, r, hx.wf h.wf, ?_, hd⟩, ?_, ?_⟩
  · intro b hb hb2
    cases hm : μ' b with
    | none => rfl
    | some l =>
      cases hm0 : μ b with
      | none => have := n b hm0 (by rw [hm]; simp); omega
      | some l0 => have := h.dom b (Nat.le_trans hx.next hb) hb2; rw [hm0] at this; cases this
  · refine ⟨f.os.trans h.below.os, f.tape.trans h.below.tape, f.output.trans h.below.output, Nat.le_trans h.below.size f.size, fun c hc => ?_⟩
    rw [f.keep c (Nat.lt_of_lt_of_le hc h.below.size) ?_, h.below.block c hc]
    intro b l hb hl ho
    have := h.mine b l hb ho
    omega
  · intro b l hb ho
    cases hb0 : μ b with
    | some l0 =>
      have := f.ext b l0 hb0
      rw [hb] at this; cases this
      exact h.mine b l hb0 (f.own b l hb0 ho)
    | none =>
      rcases f.fresh b l hb0 hb with h1 | ⟨b0, l0, h1, h2, h3⟩
      · exact Nat.le_trans h.below.size h1
      · rw [← h2]; exact h.mine b0 l0 h1 h3

/-! ### Blocks under other names -/
def renMu (κ : Nat → Option Nat) (μ : Mu) : Mu := fun c => (κ c).bind μ
def RenV (κ : Nat → Option Nat) (v v2 : Value) : Prop := ∀ (μ : Mu) (v' : Value), VRel μ v v' → VRel (renMu κ μ) v2 v'
theorem renMu_at {κ : Nat → Option Nat} {μ : Mu} {π : Nat → Nat} (hκ : ∀ b, κ (π b) = some b) (b : Nat) : renMu κ μ (π b) = μ b := by unfold renMu; rw [hκ]; rfl
theorem RenV.flat {κ : Nat → Option Nat} {v : Value} (h : flat v = true) : RenV κ v v := fun μ v' k => by
  rw [k.eq_of_flat h]; exact .flat h
theorem RenV.closed {κ : Nat → Option Nat} {v : Value} (h : closed v = true) : RenV κ v v := fun μ v' k => by
  rw [k.eq_of_closed h]; exact VRel.of_closed _ h
section
variable {κ : Nat → Option Nat} {π : Nat → Nat} (hκ : ∀ b, κ (π b) = some b)
include hκ
theorem ARel.ren {μ : Mu} {a a' : Addr} (h : ARel μ a a') : ARel (renMu κ μ) ⟨π a.block, a.off, none⟩ a' := by
  obtain ⟨l, h1, h2, h3⟩ := h
  exact ⟨l, by rw [renMu_at hκ]; exact h1, rfl, h3⟩
theorem LRel.ren {μ : Mu} {a a' : Addr} {n c c' : Nat} (h : LRel μ a a' n c c') : LRel (renMu κ μ) ⟨π a.block, a.off, none⟩ a' n c c' := by
  rcases h with h | ⟨h1, h2⟩
  · exact .inl h
  · refine .inr ⟨ARel.ren hκ h1, h2.imp id ?_⟩
    rintro ⟨l, s, q1, q2⟩
    exact ⟨l, s, by rw [renMu_at hκ]; exact q1, q2⟩
theorem RenV.ptr (b o : Nat) (s : Option Nat) : RenV κ (.pointer (some ⟨b, o, s⟩)) (.pointer (some ⟨π b, o, none⟩)) := fun μ v' k => by
  cases k with
  | flat hf => simp [Go.VAbs.flat] at hf
  | ptr h => exact .ptr (ARel.ren hκ h)
theorem RenV.slice (b o : Nat) (s : Option Nat) (n c : Nat) : RenV κ (.slice (some ⟨b, o, s⟩) n c) (.slice (some ⟨π b, o, none⟩) n c) := fun μ v' k => by
  cases k with
  | flat hf => simp [Go.VAbs.flat] at hf
  | slice h => exact .slice (LRel.ren hκ h)
/-- Whatever value may be said under the other names. -/
theorem ren_ex : ∀ v : Value, ∃ v2, RenV κ v v2 := by
  have arr : ∀ (l : List Value), (∀ v ∈ l, ∃ v2, RenV κ v v2) → ∃ l2 : List Value, l2.length = l.length ∧ ∀ (i : Nat) (v v2 : Value), l[i]? = some v → l2[i]? = some v2 → RenV κ v v2 := by
    intro l
    induction l with
    | nil => intro _; exact ⟨[], rfl, fun i v v2 h => by simp at h⟩
    | cons x l ih =>
      intro h
      obtain ⟨x2, hx⟩ := h x (List.mem_cons_self ..)
      obtain ⟨l2, h1, h2⟩ := ih (fun v hv => h v (List.mem_cons_of_mem _ hv))
      refine ⟨x2 :: l2, by simp [h1], fun i v v2 p q => ?_⟩
      cases i with
      | zero => cases p; cases q; exact hx
      | succ i => exact h2 i v v2 (by simpa using p) (by simpa using q)
  intro v
  refine Value.rec (motive_1 := fun v => ∃ v2, RenV κ v v2) (motive_2 := fun a => ∀ v ∈ a.toList, ∃ v2, RenV κ v v2) (motive_3 := fun l => ∀ v ∈ l, ∃ v2, RenV κ v v2)
    ?_ ?_ ?_ ?_ ?_ ?_ ?_ ?_ ?_ ?_ ?_ ?_ ?_ ?_ ?_ ?_ ?_ ?_ v
  · intro b; exact ⟨_, RenV.flat rfl⟩
  · intro k n; exact ⟨_, RenV.flat rfl⟩
  · intro k n; exact ⟨_, RenV.flat rfl⟩
  · intro k a b; exact ⟨_, RenV.flat rfl⟩
  · intro s; exact ⟨_, RenV.flat rfl⟩
  · intro p
    cases p with
    | none => exact ⟨_, RenV.flat rfl⟩
    | some a => obtain ⟨b, o, s⟩ := a; exact ⟨_, RenV.ptr hκ b o s⟩
  · intro p n c
    cases p with
    | none => exact ⟨_, RenV.flat rfl⟩
    | some a => obtain ⟨b, o, s⟩ := a; exact ⟨_, RenV.slice hκ b o s n c⟩
  · intro r
    cases r with
    | none => exact ⟨_, RenV.flat rfl⟩
    | some b =>
      refine ⟨.map (some (π b)), fun μ v' k => ?_⟩
      cases k with
      | flat hf => simp [Go.VAbs.flat] at hf
      | map h => exact .map (by rw [renMu_at hκ]; exact h)
  · intro r
    cases r with
    | none => exact ⟨_, RenV.flat rfl⟩
    | some b =>
      refine ⟨.chan (some b), fun μ v' k => ?_⟩
      cases k with
      | flat hf => simp [Go.VAbs.flat] at hf
  · intro fn f c hf hc
    obtain ⟨f2, f3, f4⟩ := arr f.toList hf
    obtain ⟨c2, c3, c4⟩ := arr c.toList hc
    refine ⟨.func fn ⟨f2⟩ ⟨c2⟩, fun μ v' k => ?_⟩
    cases k with
    | flat hf => simp [Go.VAbs.flat] at hf
    | func q1 q2 q3 q4 =>
      refine .func (by rw [← q1]; simpa using f3) (by rw [← q2]; simpa using c3) ?_ ?_
      · intro i v v' p q
        have hi : i < f.size := by have := (Array.getElem?_eq_some_iff.1 q).1; omega
        exact f4 i f[i] v (by simp [hi]) (by simpa using p) μ v' (q3 i _ _ (Array.getElem?_eq_getElem hi) q)
      · intro i v v' p q
        have hi : i < c.size := by have := (Array.getElem?_eq_some_iff.1 q).1; omega
        exact c4 i c[i] v (by simp [hi]) (by simpa using p) μ v' (q4 i _ _ (Array.getElem?_eq_getElem hi) q)
  · exact ⟨_, RenV.flat rfl⟩
  · rintro t v ⟨v2, h⟩
    refine ⟨.iface t v2, fun μ v' k => ?_⟩
    cases k with
    | flat hf => simp [Go.VAbs.flat] at hf
    | iface q => exact .iface (h μ _ q)
  · exact ⟨_, RenV.flat rfl⟩
  · intro c hc
    obtain ⟨c2, c3, c4⟩ := arr c.toList hc
    refine ⟨.agg ⟨c2⟩, fun μ v' k => ?_⟩
    cases k with
    | flat hf => simp [Go.VAbs.flat] at hf
    | agg q2 q4 =>
      refine .agg (by rw [← q2]; simpa using c3) ?_
      intro i v v' p q
      have hi : i < c.size := by have := (Array.getElem?_eq_some_iff.1 q).1; omega
      exact c4 i c[i] v (by simp [hi]) (by simpa using p) μ v' (q4 i _ _ (Array.getElem?_eq_getElem hi) q)
  · intro c hc
    obtain ⟨c2, c3, c4⟩ := arr c.toList hc
    refine ⟨.tuple ⟨c2⟩, fun μ v' k => ?_⟩
    cases k with
    | flat hf => simp [Go.VAbs.flat] at hf
    | tuple q2 q4 =>
      refine .tuple (by rw [← q2]; simpa using c3) ?_
      intro i v v' p q
      have hi : i < c.size := by have := (Array.getElem?_eq_some_iff.1 q).1; omega
      exact c4 i c[i] v (by simp [hi]) (by simpa using p) μ v' (q4 i _ _ (Array.getElem?_eq_getElem hi) q)
  · intro l h; exact h
  · intro v h; simp at h
  · intro v l h1 h2 x hx
    rcases List.mem_cons.1 hx with rfl | hx
    · exact h1
    · exact h2 x hx
end
end
end Go.VAbs

/-! The abstract machine, part 43: code with invariants: other names, temporaries, the kernel's runs. -/
namespace Go.VAbs
open Go Go.RowKit
set_option linter.unusedVariables false
noncomputable section
set_option linter.unusedSimpArgs false

def RenO (κ : Nat → Option Nat) (o o2 : AObj) : Prop := ∃ cs cs2 ro gr, o = .cells cs ro gr ∧ o2 = .cells cs2 ro gr ∧ cs2.length = cs.length ∧ ∀ (i : Nat) (v v2 : Value), cs[i]? = some v → cs2[i]? = some v2 → RenV κ v v2
theorem renMu_some {κ : Nat → Option Nat} {μ : Mu} {c : Nat} {l : Loc} (h : renMu κ μ c = some l) : ∃ b, κ c = some b ∧ μ b = some l := by
  unfold renMu at h
  cases hk : κ c with
  | none => rw [hk] at h; cases h
  | some b => rw [hk] at h; exact ⟨b, rfl, h⟩
theorem At.rename {E : Env} {w0 : World} {hi hi2 : Nat} {T T2 : ATmps} {σ σ2 : AS} {a : Act} {w : World} (h : At E w0 hi T σ a w) {κ : Nat → Option Nat} {π : Nat → Nat} (hκ : ∀ b, κ (π b) = some b) (hκ2 : ∀ c b, κ c = some b → π b = c) (hgl : ∀ g b, E.glob g = some b → π b = b)
    (hT : ∀ t, RenV κ (T.get t) (T2.get t)) (hTs : T2.size = T.size)
    (hσ : ∀ c o2, σ2.get c = some o2 → ∃ b o, κ c = some b ∧ σ.get b = some o ∧ RenO κ o o2)
    (hwf : ∀ b, σ2.next ≤ b → σ2.get b = none) (hdom : ∀ c, σ2.next ≤ c → c < hi2 → κ c = none) : At E w0 hi2 T2 σ2 a w := by
  obtain ⟨μ, h⟩ := h
  have own : ∀ c b, κ c = some b → Own σ2.get c → Own σ.get b := by
    rintro c b hk ⟨o2, h1, h2⟩
    obtain ⟨b', o, k1, k2, cs, cs2, ro, gr, rfl, rfl, _⟩ := hσ c o2 h1
    rw [hk] at k1; cases k1
    exact ⟨_, k2, h2⟩
  have alive : ∀ c b, κ c = some b → Alive σ2.get c → Alive σ.get b := by
    rintro c b hk ⟨o2, h1, h2⟩
    obtain ⟨b', o, k1, k2, cs, cs2, ro, gr, rfl, rfl, _⟩ := hσ c o2 h1
    rw [hk] at k1; cases k1
    exact ⟨_, k2, rfl⟩
  refine ⟨renMu κ μ, ⟨⟨?_, ⟨?_, ?_⟩, ⟨?_, ?_, ?_⟩, hwf, ?_, h.defers⟩, h.below, ?_⟩⟩
  · intro g b hg
    obtain ⟨l, h1, h2⟩ := h.gl g b hg
    refine ⟨l, ?_, h2⟩
    have := renMu_at (μ := μ) hκ b
    rw [hgl g b hg] at this
    rw [this]; exact h1
  · rw [hTs]; exact h.tm.size
  · intro t; exact hT t μ _ (h.tm.get t)
  · intro c l hc
    obtain ⟨b, _, h2⟩ := renMu_some hc
    exact h.rel.size b l h2
  · intro c l o2 hc ho
    obtain ⟨b, h1, h2⟩ := renMu_some hc
    obtain ⟨b', o, k1, k2, cs, cs2, ro, gr, rfl, rfl, hlen, hv⟩ := hσ c o2 ho
    rw [h1] at k1; cases k1
    obtain ⟨arr, t, fr, q1, q2, q3, q4, q5, q6⟩ := h.rel.obj b l _ h2 k2
    refine ⟨arr, t, fr, q1, by rw [hlen]; exact q2, ?_, q4, q5, q6⟩
    intro i v v' p q
    have hi : i < cs.length := by have := (List.getElem?_eq_some_iff.1 p).1; omega
    exact hv i cs[i] v (List.getElem?_eq_getElem hi) p μ v' (q3 i _ _ (List.getElem?_eq_getElem hi) q)
  · intro c c' l l' hc hc' hne hblk ho ha
    obtain ⟨b, h1, h2⟩ := renMu_some hc
    obtain ⟨b', h1', h2'⟩ := renMu_some hc'
    have hb : b ≠ b' := by
      intro e; subst e
      exact hne ((hκ2 _ _ h1).symm.trans (hκ2 _ _ h1'))
    exact h.rel.inj b b' l l' h2 h2' hb hblk (own c b h1 ho) (alive c' b' h1' ha)
  · intro c hc1 hc2
    unfold renMu
    rw [hdom c hc1 hc2]; rfl
  · intro c l hc ho
    obtain ⟨b, h1, h2⟩ := renMu_some hc
    exact h.mine b l h2 (own c b h1 ho)

/-- Temporaries of which some are told. -/
theorem ren_tmps {κ : Nat → Option Nat} {π : Nat → Nat} (hκ : ∀ b, κ (π b) = some b) (T : ATmps) (L : List (Nat × Value)) (hL : ∀ t v, L.lookup t = some v → RenV κ (T.get t) v) :
    ∃ T2 : ATmps, T2.size = T.size ∧ (∀ t, RenV κ (T.get t) (T2.get t)) ∧ ∀ t v, L.lookup t = some v → T2.get t = v := by
  have key : ∀ t, ∃ v, RenV κ (T.get t) v ∧ ∀ u, L.lookup t = some u → v = u := by
    intro t
    cases hl : L.lookup t with
    | none =>
      obtain ⟨v, hv⟩ := ren_ex hκ (T.get t)
      exact ⟨v, hv, fun u h => by cases h⟩
    | some u => exact ⟨u, hL t u hl, fun u' h => by cases h; rfl⟩
  refine ⟨⟨.b (fun t => some (Classical.choose (key t))), T.size⟩, rfl, fun t => (Classical.choose_spec (key t)).1, fun t v h => (Classical.choose_spec (key t)).2 v h⟩

/-! ### Temporaries as the kernel's machine has them -/
def P16of {α : Type} (f : Nat → α) : P16 α := ⟨f 0, f 1, f 2, f 3, f 4, f 5, f 6, f 7, f 8, f 9, f 10, f 11, f 12, f 13, f 14, f 15⟩
theorem P16of_nth {α : Type} (f : Nat → α) {q : Nat} (h : q < 16) : (P16of f).nth q = f q := by
  have h1 : q = 0 ∨ q = 1 ∨ q = 2 ∨ q = 3 ∨ q = 4 ∨ q = 5 ∨ q = 6 ∨ q = 7 ∨ q = 8 ∨ q = 9 ∨ q = 10 ∨ q = 11 ∨ q = 12 ∨ q = 13 ∨ q = 14 ∨ q = 15 := by omega
  rcases h1 with rfl | rfl | rfl | rfl | rfl | rfl | rfl | rfl | rfl | rfl | rfl | rfl | rfl | rfl | rfl | rfl <;> rfl
def ktOf (T : ATmps) : KT := P16of fun q => P16of fun r => T.get (16 * q + r)
theorem ktOf_get (T : ATmps) {i : Nat} (h : i < 256) : (ktOf T).get i = T.get i := by
  unfold KT.get ktOf
  rw [P16of_nth _ (by omega), P16of_nth _ (by omega)]
  congr 1; omega
theorem ktOf_rel {N : Nat} {T : ATmps} (h : N ≤ T.size) : KRel N (ktOf T) T := ⟨h, fun i hi => (ktOf_get T hi).symm⟩

/-- What comes out of code, and how: 0: it goes on; 1: it returns; i + 2: it leaves block i. -/
def tdumpK : Nat → Nat → KT → List Value
  | 0, _, _ => []
  | n + 1, i, t => t.get i :: tdumpK n (i + 1) t
def kD (N tag : Nat) (t : KT) (σ : AS) : KR := some (.agg ⟨.int .i64 (Int.ofNat tag) :: tdumpK N 0 t⟩, σ)
def exOf : Nat → AExit
  | 0 => .normal
  | 1 => .ret
  | i + 2 => .exit i
theorem tdumpK_get : ∀ (n i : Nat) (t : KT) (j : Nat), j < n → (tdumpK n i t)[j]? = some (t.get (i + j))
  | n + 1, i, t, 0, _ => rfl
  | n + 1, i, t, j + 1, h => by
    have := tdumpK_get n (i + 1) t j (by omega)
    show (tdumpK n (i + 1) t)[j]? = _
    rw [this]; congr 2; omega
theorem kcode_dump {E : Env} {N : Nat} (hN : N ≤ 256) {kk k : Nat} {c : Code} {T : ATmps} {σ σ' : AS} {l : List Value} {tag : Nat} (hT : N ≤ T.size)
    (h : (kcode E N c).run (kcall E kk) k (ktOf T) σ (kD N 0) (fun i => kD N (i + 2)) (kD N 1) = some (.agg ⟨.int .i64 (Int.ofNat tag) :: l⟩, σ')) :
    ∃ T', acode E (acall E kk) k c T σ = some (exOf tag, T', σ') ∧ N ≤ T'.size ∧ ∀ j, j < N → l[j]? = some (T'.get j) := by
  obtain ⟨e, T', t', σ'', h1, h2, h3⟩ := kcode_ok E N (kcall_ok E kk) k c _ T σ _ _ _ _ (ktOf_rel hT) h
  have fin : ∀ tg, kD N tg t' σ'' = some (.agg ⟨.int .i64 (Int.ofNat tag) :: l⟩, σ') → tg = tag ∧ σ'' = σ' ∧ ∀ j, j < N → l[j]? = some (T'.get j) := by
    intro tg hk
    unfold kD at hk
    simp only [Option.some.injEq, Prod.mk.injEq, Value.agg.injEq, Array.mk.injEq, List.cons.injEq, Value.int.injEq, true_and] at hk
    obtain ⟨⟨q1, q2⟩, q3⟩ := hk
    refine ⟨Int.ofNat.inj q1, q3, fun j hj => ?_⟩
    rw [← q2, tdumpK_get N 0 t' j hj, h2.2 j (by omega)]
    congr 2; omega
  cases e with
  | normal =>
    obtain ⟨rfl, rfl, h4⟩ := fin 0 h3
    exact ⟨T', h1, h2.1, h4⟩
  | ret =>
    obtain ⟨rfl, rfl, h4⟩ := fin 1 h3
    exact ⟨T', h1, h2.1, h4⟩
  | exit i =>
    obtain ⟨rfl, rfl, h4⟩ := fin (i + 2) h3
    exact ⟨T', h1, h2.1, h4⟩
end
end Go.VAbs

/-! The abstract machine, part 44: a round that keeps the low blocks. -/
namespace Go.VAbs
open Go Go.RowKit
set_option linter.unusedVariables false
noncomputable section
set_option linter.unusedSimpArgs false

/-- The low blocks keep their names; all others go behind. -/
def piLow (m hi : Nat) (b : Nat) : Nat := if b < m then b else hi + b
def kaLow (m hi : Nat) (c : Nat) : Option Nat := if c < m then some c else if hi + m ≤ c then some (c - hi) else none
theorem kaLow_pi {m hi : Nat} (h : m ≤ hi) (b : Nat) : kaLow m hi (piLow m hi b) = some b := by
  unfold kaLow piLow
  by_cases hb : b < m
  · rw [if_pos hb, if_pos hb]
  · rw [if_neg hb, if_neg (by omega), if_pos (by omega)]; congr 1; omega
theorem piLow_ka {m hi : Nat} (c b : Nat) (h : kaLow m hi c = some b) : piLow m hi b = c := by
  unfold kaLow at h
  unfold piLow
  split at h
  · cases h; rw [if_pos (by assumption)]
  · split at h
    · cases h; rw [if_neg (by omega)]; omega
    · cases h
/-- A value that leads to low blocks alone. -/
def fixV (m : Nat) (v : Value) : Bool := match v with
  | .pointer (some ⟨b, _, none⟩) => Nat.blt b m
  | .slice (some ⟨b, _, none⟩) _ _ => Nat.blt b m
  | v => closed v
theorem fixV_ren {m hi : Nat} (hm : m ≤ hi) {v : Value} (h : fixV m v = true) : RenV (kaLow m hi) v v := by
  have hκ := kaLow_pi hm
  unfold fixV at h
  split at h
  · rename_i b o
    have hb : b < m := Nat.blt_eq.mp h
    have := RenV.ptr (κ := kaLow m hi) (π := piLow m hi) hκ b o none
    have e : piLow m hi b = b := by unfold piLow; rw [if_pos hb]
    rw [e] at this; exact this
  · rename_i b o n c
    have hb : b < m := Nat.blt_eq.mp h
    have := RenV.slice (κ := kaLow m hi) (π := piLow m hi) hκ b o none n c
    have e : piLow m hi b = b := by unfold piLow; rw [if_pos hb]
    rw [e] at this; exact this
  · exact RenV.closed h
theorem At.low {E : Env} {w0 : World} {hi : Nat} {T : ATmps} {σ σ2 : AS} {a : Act} {w : World} (h : At E w0 hi T σ a w) {m : Nat} (hm : m ≤ hi) (hgl : ∀ g b, E.glob g = some b → b < m) (hnx : σ2.next = m)
    (L : List (Nat × Value)) (hL : ∀ t v, L.lookup t = some v → T.get t = v ∧ fixV m v = true)
    (hσ : ∀ c o, σ2.get c = some o → c < m ∧ σ.get c = some o ∧ ∃ cs ro gr, o = .cells cs ro gr ∧ ∀ v ∈ cs, fixV m v = true) :
    ∃ T2, T2.size = T.size ∧ (∀ t v, L.lookup t = some v → T2.get t = v) ∧ At E w0 hi T2 σ2 a w := by
  have hκ := kaLow_pi hm
  obtain ⟨T2, h1, h2, h3⟩ := ren_tmps hκ T L (fun t v hl => by
    obtain ⟨q1, q2⟩ := hL t v hl
    rw [q1]; exact fixV_ren hm q2)
  refine ⟨T2, h1, h3, h.rename hκ piLow_ka (fun g b hg => by unfold piLow; rw [if_pos (hgl g b hg)]) h2 h1 ?_ ?_ ?_⟩
  · intro c o2 ho
    obtain ⟨q1, q2, cs, ro, gr, rfl, q3⟩ := hσ c o2 ho
    refine ⟨c, _, by unfold kaLow; rw [if_pos q1], q2, cs, cs, ro, gr, rfl, rfl, rfl, ?_⟩
    intro i v v2 p q
    rw [p] at q; cases q
    exact fixV_ren hm (q3 v (List.mem_of_getElem? p))
  · intro b hb
    cases hg : σ2.get b with
    | none => rfl
    | some o => have := (hσ b o hg).1; omega
  · intro c hc1 hc2
    unfold kaLow
    rw [if_neg (by omega), if_neg (by omega)]
/-- A round: what the kernel's machine shows of it. -/
def obsK (live bl : List Nat) (r : KR) : Option (Nat × List (Option Value) × List (Option AObj) × Nat) := match r with
  | some (.agg ⟨.int .i64 (.ofNat tag) :: l⟩, σ) => some (tag, live.map (fun i => l[i]?), bl.map σ.heap.get, σ.next)
  | _ => none
theorem obsK_ok {live bl : List Nat} {r : KR} {tag nx : Nat} {vs : List (Option Value)} {os : List (Option AObj)} (h : obsK live bl r = some (tag, vs, os, nx)) :
    ∃ l σ', r = some (.agg ⟨.int .i64 (Int.ofNat tag) :: l⟩, σ') ∧ live.map (fun i => l[i]?) = vs ∧ bl.map σ'.heap.get = os ∧ σ'.next = nx := by
  unfold obsK at h
  split at h
  · rename_i tag' l σ'
    simp only [Option.some.injEq, Prod.mk.injEq] at h
    obtain ⟨rfl, h1, h2, h3⟩ := h
    exact ⟨l, σ', rfl, h1, h2, h3⟩
  · cases h
theorem lookup_zip : ∀ {live : List Nat} {vs : List Value} {f : Nat → Option Value}, live.map f = vs.map some → ∀ t v, (live.zip vs).lookup t = some v → f t = some v
  | [], vs, f, h, t, v, hl => by simp at hl
  | x :: live, [], f, h, t, v, hl => by simp at hl
  | x :: live, u :: vs, f, h, t, v, hl => by
    simp only [List.map_cons, List.cons.injEq] at h
    rw [List.zip_cons_cons, List.lookup_cons] at hl
    cases hx : t == x with
    | true =>
      rw [hx] at hl; cases hl
      rw [beq_iff_eq.1 hx]; exact h.1
    | false => rw [hx] at hl; exact lookup_zip h.2 t v hl
theorem At.round {E : Env} (hP : ProgOk E) {N : Nat} (hN : N ≤ 256) {c : Code} (hwf : codeWf c = true) {kk k : Nat} {w0 : World} {hi : Nat} {T : ATmps} {σ : AS} {a : Act} {w : World} (h : At E w0 hi T σ a w) (hT : N ≤ T.size)
    {live bl : List Nat} {tag nx : Nat} {vs : List Value} {os : List (Option AObj)} (hlive : ∀ t ∈ live, t < N)
    (hrun : obsK live bl ((kcode E N c).run (kcall E kk) k (ktOf T) σ (kD N 0) (fun j => kD N (j + 2)) (kD N 1)) = some (tag, vs.map some, os, nx)) (hnx : nx ≤ hi) :
    c.wp E.P (fun e a' w' => e = (exOf tag).conc ∧ ∃ T' σ', N ≤ T'.size ∧ (∀ t v, (live.zip vs).lookup t = some v → T'.get t = v) ∧ bl.map σ'.get = os ∧ σ'.next = nx ∧ At E w0 hi T' σ' a' w') a w := by
  obtain ⟨l, σ', h1, h2, h3, h4⟩ := obsK_ok hrun
  obtain ⟨T', q1, q2, q3⟩ := kcode_dump hN hT h1
  refine wp_mono (h.code hP (acall_ok hP kk) hwf q1 (by rw [h4]; exact hnx)) ?_
  rintro e a' w' ⟨rfl, hAt⟩
  refine ⟨rfl, T', σ', q2, ?_, h3, h4, hAt⟩
  intro t v hl
  have h5 := lookup_zip h2 t v hl
  have ht : t ∈ live := by
    have : (t, v) ∈ live.zip vs := by
      clear h5 h3 h2 hAt
      revert hl
      generalize live.zip vs = Z
      induction Z with
      | nil => intro hl; simp at hl
      | cons z Z ih =>
        intro hl
        rw [List.lookup_cons] at hl
        cases hx : t == z.1 with
        | true => rw [hx] at hl; cases hl; rw [beq_iff_eq.1 hx]; exact List.mem_cons_self ..
        | false => rw [hx] at hl; exact List.mem_cons_of_mem _ (ih hl)
    exact (List.of_mem_zip this).1
  rw [q3 t (hlive t ht)] at h5
  exact Option.some.inj h5
end
end Go.VAbs

/-! The abstract machine, part 45: where functions with invariants begin and end. -/
namespace Go.VAbs
open Go Go.RowKit
set_option linter.unusedVariables false
noncomputable section
set_option linter.unusedSimpArgs false

theorem At.results {E : Env} (hE : EnvOk E) {fn : Func} {i : Nat} {v : Value} (hr : fn.results.toList = [.tmp i]) (hv : closed v = true) {w0 : World} {hi : Nat} {T : ATmps} {σ : AS} {a : Act} {w : World} (h : At E w0 hi T σ a w) (hT : T.get i = v) :
    a.defers = [] ∧ (Go.results fn a.tmps).run E.P w = .ok v w := by
  obtain ⟨μ, h⟩ := h
  refine ⟨h.defers, ?_⟩
  have hl : ares E T σ fn.results.toList = some [v] := by
    rw [hr]
    simp only [ares, hT]
  obtain ⟨l', q1, q2⟩ := ares_sim hE h.tm h.rel hl
  obtain ⟨v', rfl⟩ : ∃ v', l' = [v'] := by
    have := q2.1
    simp only [List.size_toArray, List.length_cons, List.length_nil] at this
    match l', this with
    | [v'], _ => exact ⟨v', rfl⟩
  have hvv : v' = v := (q2.2 0 v v' rfl rfl).eq_of_closed hv
  subst hvv
  unfold Go.results
  rw [Sem.run_bind]
  have this : (fn.results.mapM fun
      | .tmp t => pure (a.tmps.getD t undef)
      | .cell b t => do loadVar t (← asAddr (a.tmps.getD b undef)) : Sem (Array Value)).run E.P w = .ok [v'].toArray w := by
    rw [Array.mapM_eq_mapM_toList]
    simp only [Sem.run_map]
    exact congrArg (fun r => Result.andThen r fun (a : List Value) w' => Result.ok a.toArray w') q1
  refine Eq.trans (congrArg (fun r => Result.andThen r fun a w' => Sem.run E.P (pure (if h : a.size = 1 then a[0] else Value.tuple a)) w') this) ?_
  rfl
/-- A function of which a reader of one row begins: rows below m, one of them seen; nothing is its own. -/
theorem At.enter {E : Env} {μ : Mu} {σ σ2 : AS} {w : World} {m hi : Nat} (hm : m ≤ hi) (hG : GlOk E μ) (hgl : ∀ g b, E.glob g = some b → b < m) (hR : Rel μ σ.get w) {args : List Value} {args' : Array Value} (hargs : VRels μ args.toArray args') (hfix : ∀ v ∈ args, fixV m v = true)
    (hσ : ∀ c o2, σ2.get c = some o2 → c < m ∧ ∃ cs ro gr, σ.get c = some (.cells cs ro gr) ∧ o2 = .cells cs true gr ∧ ∀ v ∈ cs, fixV m v = true) (hnx : σ2.next = m) (ntmps : Nat) :
    At E w hi { tr := startTr args 0 .e, size := args.length + (ntmps - args.length) } σ2 { tmps := args' ++ Array.replicate (ntmps - args'.size) undef, defers := [] } w := by
  have hκ := kaLow_pi hm
  have hargs2 : VRels (renMu (kaLow m hi) μ) args.toArray args' := ⟨hargs.1, fun i v v' p q => fixV_ren hm (hfix v (by
    have := Array.mem_of_getElem? p
    simpa using this)) μ v' (hargs.2 i v v' p q)⟩
  refine ⟨renMu (kaLow m hi) μ, ⟨⟨?_, start_rel hargs2 ntmps, ⟨?_, ?_, ?_⟩, ?_, ?_, rfl⟩, .refl _ _, ?_⟩⟩
  · intro g b hg
    obtain ⟨l, h1, h2⟩ := hG g b hg
    refine ⟨l, ?_, h2⟩
    have hb := hgl g b hg
    unfold renMu kaLow
    rw [if_pos hb]; exact h1
  · intro c l hc
    obtain ⟨b, _, h2⟩ := renMu_some hc
    exact hR.size b l h2
  · intro c l o2 hc ho
    obtain ⟨b, h1, h2⟩ := renMu_some hc
    obtain ⟨q1, cs, ro, gr, q2, rfl, q3⟩ := hσ c o2 ho
    have hbc : b = c := by
      unfold kaLow at h1
      rw [if_pos q1] at h1; cases h1; rfl
    subst hbc
    obtain ⟨arr, t, fr, k1, k2, k3, k4, k5, k6⟩ := hR.obj b l _ h2 q2
    refine ⟨arr, t, fr, k1, k2, ?_, k4, k5, fun q => by cases q⟩
    intro i v v' p q
    exact fixV_ren hm (q3 v (List.mem_of_getElem? p)) μ v' (k3 i v v' p q)
  · rintro c c' l l' _ _ _ _ ⟨o2, p1, p2⟩
    obtain ⟨_, cs, ro, gr, _, rfl, _⟩ := hσ c o2 p1
    cases p2
  · intro b hb
    cases hg : σ2.get b with
    | none => rfl
    | some o => have := (hσ b o hg).1; omega
  · intro c hc1 hc2
    unfold renMu kaLow
    rw [if_neg (by omega), if_neg (by omega)]; rfl
  · rintro c l _ ⟨o2, p1, p2⟩
    obtain ⟨_, cs, ro, gr, _, rfl, _⟩ := hσ c o2 p1
    cases p2
end
end Go.VAbs

/-! The abstract machine, part 46: code with invariants: heaps of a few blocks; pieces of code between them; blocks renamed by a list. -/
namespace Go.VAbs
open Go Go.RowKit
set_option linter.unusedVariables false
noncomputable section
set_option linter.unusedSimpArgs false

/-- A heap of a few blocks, told one by one. -/
def lookB {α : Type} (c : Nat) : List (Nat × α) → Option α
  | [] => none
  | x :: B => cond (Nat.beq c x.1) (some x.2) (lookB c B)
def sigL (m : Nat) (B : List (Nat × AObj)) : AS := ⟨.b (fun c => lookB c B), m, []⟩
theorem lookB_mem {α : Type} {c : Nat} {o : α} : ∀ {B : List (Nat × α)}, lookB c B = some o → (c, o) ∈ B
  | [], h => by cases h
  | x :: B, h => by
    unfold lookB at h
    cases hb : Nat.beq c x.1 with
    | true =>
      rw [hb] at h; cases h
      have := Nat.eq_of_beq_eq_true hb
      subst this
      exact List.mem_cons_self ..
    | false => rw [hb] at h; exact List.mem_cons_of_mem _ (lookB_mem h)
theorem lookB_none {α : Type} {c : Nat} : ∀ {B : List (Nat × α)}, (∀ x ∈ B, x.1 ≠ c) → lookB c B = none
  | [], _ => rfl
  | x :: B, h => by
    unfold lookB
    cases hb : Nat.beq c x.1 with
    | true => exact absurd (Nat.eq_of_beq_eq_true hb).symm (h x (List.mem_cons_self ..))
    | false => exact lookB_none fun y hy => h y (List.mem_cons_of_mem _ hy)
theorem lookB_of {α : Type} {c : Nat} {o : α} : ∀ {B : List (Nat × α)}, (B.map (·.1)).Nodup → (c, o) ∈ B → lookB c B = some o
  | x :: B, hn, h => by
    rw [List.map_cons, List.nodup_cons] at hn
    unfold lookB
    rcases List.mem_cons.1 h with rfl | h
    · rw [Nat.beq_refl]; rfl
    · have : Nat.beq c x.1 = false := by
        cases hb : Nat.beq c x.1 with
        | false => rfl
        | true => exact absurd (List.mem_map.2 ⟨_, h, Nat.eq_of_beq_eq_true hb⟩) hn.1
      rw [this]; exact lookB_of hn.2 h

/-- Names: those of a list get others, all others go. -/
abbrev Rho := List (Nat × Nat)
def swapR (ρ : Rho) : Rho := ρ.map fun x => (x.2, x.1)
def piR (ρ : Rho) (hi b : Nat) : Nat := match lookB b ρ with
  | some c => c
  | none => hi + b
def kaR (ρ : Rho) (hi c : Nat) : Option Nat := match lookB c (swapR ρ) with
  | some b => some b
  | none => if hi ≤ c then (if (lookB (c - hi) ρ).isNone then some (c - hi) else none) else none
structure RhoOk (ρ : Rho) (m : Nat) : Prop where
  old : (ρ.map (·.1)).Nodup
  new : (ρ.map (·.2)).Nodup
  low : ∀ x ∈ ρ, x.2 < m
theorem RhoOk.swap {ρ : Rho} {m b c : Nat} (h : RhoOk ρ m) (e : lookB b ρ = some c) : lookB c (swapR ρ) = some b := by
  refine lookB_of ?_ (List.mem_map.2 ⟨(b, c), lookB_mem e, rfl⟩)
  unfold swapR
  rw [List.map_map]; exact h.new
theorem RhoOk.unswap {ρ : Rho} {m b c : Nat} (h : RhoOk ρ m) (e : lookB c (swapR ρ) = some b) : lookB b ρ = some c := by
  refine lookB_of h.old ?_
  obtain ⟨x, hx, he⟩ := List.mem_map.1 (lookB_mem e)
  simp only [Prod.mk.injEq] at he
  obtain ⟨rfl, rfl⟩ := he
  exact hx
theorem kaR_piR {ρ : Rho} {m hi : Nat} (h : RhoOk ρ m) (hm : m ≤ hi) (b : Nat) : kaR ρ hi (piR ρ hi b) = some b := by
  unfold piR
  cases e : lookB b ρ with
  | some c => simp only [kaR, h.swap e]
  | none =>
    have h1 : lookB (hi + b) (swapR ρ) = none := lookB_none fun x hx => by
      obtain ⟨y, hy, rfl⟩ := List.mem_map.1 hx
      have := h.low y hy
      simp only; omega
    simp only [kaR, h1]
    rw [if_pos (by omega), Nat.add_sub_cancel_left, e]; rfl
theorem piR_kaR {ρ : Rho} {m hi : Nat} (h : RhoOk ρ m) (c b : Nat) (e : kaR ρ hi c = some b) : piR ρ hi b = c := by
  unfold kaR at e
  cases e1 : lookB c (swapR ρ) with
  | some b1 =>
    rw [e1] at e
    obtain rfl : b1 = b := by simpa using e
    simp only [piR, h.unswap e1]
  | none =>
    rw [e1] at e
    simp only at e
    split at e
    · split at e
      · rename_i h2
        cases e
        rw [Option.isNone_iff_eq_none] at h2
        simp only [piR, h2]; omega
      · cases e
    · cases e
/-- A value under the other names. -/
def rnV1 (ρ : Rho) (v : Value) : Option Value := match v with
  | .pointer (some ⟨b, o, none⟩) => (lookB b ρ).map fun c => .pointer (some ⟨c, o, none⟩)
  | .slice (some ⟨b, o, none⟩) n k => (lookB b ρ).map fun c => .slice (some ⟨c, o, none⟩) n k
  | .map (some b) => (lookB b ρ).map fun c => .map (some c)
  | v => cond (closed v) (some v) none
def rnL (f : Value → Option Value) : List Value → Option (List Value)
  | [] => some []
  | v :: l => (f v).bind fun v2 => (rnL f l).map fun l2 => v2 :: l2
def rnV (ρ : Rho) (v : Value) : Option Value := match v with
  | .func fn ⟨a⟩ ⟨c⟩ => (rnL (rnV1 ρ) a).bind fun a2 => (rnL (rnV1 ρ) c).map fun c2 => .func fn ⟨a2⟩ ⟨c2⟩
  | .iface t x => (rnV1 ρ x).map fun x2 => .iface t x2
  | .agg ⟨c⟩ => (rnL (rnV1 ρ) c).map fun c2 => .agg ⟨c2⟩
  | v => rnV1 ρ v
def kMu (ρ : Rho) (hi : Nat) : Nat → Option Nat := kaR ρ hi
theorem rnV1_ren {ρ : Rho} {m hi : Nat} (h : RhoOk ρ m) (hm : m ≤ hi) {v v2 : Value} (e : rnV1 ρ v = some v2) : RenV (kaR ρ hi) v v2 := by
  have hκ := kaR_piR h hm
  have go : ∀ {b c : Nat}, lookB b ρ = some c → piR ρ hi b = c := fun q => by simp only [piR, q]
  unfold rnV1 at e
  split at e
  · rename_i b o
    cases q : lookB b ρ with
    | none => rw [q] at e; cases e
    | some c =>
      rw [q] at e; cases e
      have := RenV.ptr (κ := kaR ρ hi) (π := piR ρ hi) hκ b o none
      rw [go q] at this; exact this
  · rename_i b o n k
    cases q : lookB b ρ with
    | none => rw [q] at e; cases e
    | some c =>
      rw [q] at e; cases e
      have := RenV.slice (κ := kaR ρ hi) (π := piR ρ hi) hκ b o none n k
      rw [go q] at this; exact this
  · rename_i b
    cases q : lookB b ρ with
    | none => rw [q] at e; cases e
    | some c =>
      rw [q] at e; cases e
      intro μ v' k
      cases k with
      | flat hf => simp [Go.VAbs.flat] at hf
      | map h1 =>
        refine .map ?_
        have := renMu_at (κ := kaR ρ hi) (μ := μ) (π := piR ρ hi) hκ b
        rw [go q] at this
        rw [this]; exact h1
  · cases q : closed v with
    | false => rw [q] at e; cases e
    | true => rw [q] at e; cases e; exact RenV.closed q
theorem rnL_len {f : Value → Option Value} : ∀ {l l2 : List Value}, rnL f l = some l2 → l2.length = l.length
  | [], l2, h => by cases h; rfl
  | v :: l, l2, h => by
    unfold rnL at h
    cases q : f v with
    | none => rw [q] at h; cases h
    | some v2 =>
      rw [q] at h
      cases q2 : rnL f l with
      | none => rw [q2] at h; cases h
      | some l3 => rw [q2] at h; cases h; simp [rnL_len q2]
theorem rnL_get {f : Value → Option Value} : ∀ {l l2 : List Value}, rnL f l = some l2 → ∀ (i : Nat) (v v2 : Value), l[i]? = some v → l2[i]? = some v2 → f v = some v2
  | [], l2, h, i, v, v2, p, q => by simp at p
  | x :: l, l2, h, i, v, v2, p, q => by
    unfold rnL at h
    cases q1 : f x with
    | none => rw [q1] at h; cases h
    | some x2 =>
      rw [q1] at h
      cases q2 : rnL f l with
      | none => rw [q2] at h; cases h
      | some l3 =>
        rw [q2] at h; cases h
        cases i with
        | zero => cases p; cases q; exact q1
        | succ i => exact rnL_get q2 i v v2 (by simpa using p) (by simpa using q)
theorem rnL_self {f : Value → Option Value} : ∀ {l : List Value}, (∀ v ∈ l, f v = some v) → rnL f l = some l
  | [], _ => rfl
  | v :: l, h => by
    unfold rnL
    rw [h v (List.mem_cons_self ..), rnL_self fun x hx => h x (List.mem_cons_of_mem _ hx)]; rfl
theorem rnL_append {f : Value → Option Value} : ∀ {l l2 r r2 : List Value}, rnL f l = some l2 → rnL f r = some r2 → rnL f (l ++ r) = some (l2 ++ r2)
  | [], l2, r, r2, h, k => by cases h; exact k
  | v :: l, l2, r, r2, h, k => by
    rw [List.cons_append]
    unfold rnL at h ⊢
    cases q : f v with
    | none => rw [q] at h; cases h
    | some v2 =>
      rw [q] at h
      cases q2 : rnL f l with
      | none => rw [q2] at h; cases h
      | some l3 => rw [q2] at h; cases h; rw [rnL_append q2 k]; rfl
theorem rnV_ren {ρ : Rho} {m hi : Nat} (h : RhoOk ρ m) (hm : m ≤ hi) {v v2 : Value} (e : rnV ρ v = some v2) : RenV (kaR ρ hi) v v2 := by
  have rows : ∀ {l l2 : List Value}, rnL (rnV1 ρ) l = some l2 → ∀ (i : Nat) (v v2 : Value), l[i]? = some v → l2[i]? = some v2 → RenV (kaR ρ hi) v v2 := fun q i v v2 p p2 => rnV1_ren h hm (rnL_get q i v v2 p p2)
  unfold rnV at e
  split at e
  · rename_i fn a c
    cases q1 : rnL (rnV1 ρ) a with
    | none => rw [q1] at e; cases e
    | some a2 =>
      rw [q1] at e
      cases q2 : rnL (rnV1 ρ) c with
      | none => rw [q2] at e; cases e
      | some c2 =>
        rw [q2] at e; cases e
        intro μ v' k
        cases k with
        | flat hf => simp [Go.VAbs.flat] at hf
        | func p1 p2 p3 p4 =>
          have l1 := rnL_len q1
          have l2 := rnL_len q2
          simp only [List.size_toArray] at p1 p2
          refine .func (by simp only [List.size_toArray]; omega) (by simp only [List.size_toArray]; omega) ?_ ?_
          · intro i x x' g g'
            have hi' : i < a.length := by have := (Array.getElem?_eq_some_iff.1 g').1; omega
            have g0 : a[i]? = some a[i] := List.getElem?_eq_getElem hi'
            exact rows q1 i a[i] x g0 (by simpa using g) μ x' (p3 i a[i] x' (by simp [g0]) g')
          · intro i x x' g g'
            have hi' : i < c.length := by have := (Array.getElem?_eq_some_iff.1 g').1; omega
            have g0 : c[i]? = some c[i] := List.getElem?_eq_getElem hi'
            exact rows q2 i c[i] x g0 (by simpa using g) μ x' (p4 i c[i] x' (by simp [g0]) g')
  · rename_i t x
    cases q1 : rnV1 ρ x with
    | none => rw [q1] at e; cases e
    | some x2 =>
      rw [q1] at e; cases e
      intro μ v' k
      cases k with
      | flat hf => simp [Go.VAbs.flat] at hf
      | iface q => exact .iface (rnV1_ren h hm q1 μ _ q)
  · rename_i c
    cases q2 : rnL (rnV1 ρ) c with
    | none => rw [q2] at e; cases e
    | some c2 =>
      rw [q2] at e; cases e
      intro μ v' k
      cases k with
      | flat hf => simp [Go.VAbs.flat] at hf
      | agg p2 p4 =>
        have l2 := rnL_len q2
        simp only [List.size_toArray] at p2
        refine .agg (by simp only [List.size_toArray]; omega) ?_
        intro i x x' g g'
        have hi' : i < c.length := by have := (Array.getElem?_eq_some_iff.1 g').1; omega
        have g0 : c[i]? = some c[i] := List.getElem?_eq_getElem hi'
        exact rows q2 i c[i] x g0 (by simpa using g) μ x' (p4 i c[i] x' (by simp [g0]) g')
  · exact rnV1_ren h hm e
def RnO (ρ : Rho) (o o2 : AObj) : Prop := ∃ cs cs2 ro gr, o = .cells cs ro gr ∧ o2 = .cells cs2 ro gr ∧ rnL (rnV ρ) cs = some cs2
theorem RnO.ren {ρ : Rho} {m hi : Nat} (h : RhoOk ρ m) (hm : m ≤ hi) {o o2 : AObj} (e : RnO ρ o o2) : RenO (kaR ρ hi) o o2 := by
  obtain ⟨cs, cs2, ro, gr, rfl, rfl, q⟩ := e
  exact ⟨cs, cs2, ro, gr, rfl, rfl, rnL_len q, fun i v v2 p p2 => rnV_ren h hm (rnL_get q i v v2 p p2)⟩
/-- What stands is said anew: some blocks, under other names; some temporaries. -/
theorem At.keep {E : Env} {w0 : World} {hi : Nat} {T : ATmps} {σ : AS} {a : Act} {w : World} (h : At E w0 hi T σ a w) {ρ : Rho} {m : Nat} (hρ : RhoOk ρ m) (hm : m ≤ hi) (hgl : ∀ g b, E.glob g = some b → lookB b ρ = some b)
    (B : List (Nat × AObj)) (hB : ∀ x ∈ B, ∃ b o, lookB b ρ = some x.1 ∧ σ.get b = some o ∧ RnO ρ o x.2)
    (L : List (Nat × Value)) (hL : ∀ t v, L.lookup t = some v → rnV ρ (T.get t) = some v) :
    ∃ T2 : ATmps, T2.size = T.size ∧ (∀ t v, L.lookup t = some v → T2.get t = v) ∧ At E w0 hi T2 (sigL m B) a w := by
  have hκ := kaR_piR hρ hm
  obtain ⟨T2, h1, h2, h3⟩ := ren_tmps hκ T L (fun t v hl => rnV_ren hρ hm (hL t v hl))
  refine ⟨T2, h1, h3, h.rename hκ (piR_kaR hρ) (fun g b hg => by simp only [piR, hgl g b hg]) h2 h1 ?_ ?_ ?_⟩
  · intro c o2 ho
    obtain ⟨b, o, q1, q2, q3⟩ := hB _ (lookB_mem (show lookB c B = some o2 from ho))
    exact ⟨b, o, by simp only [kaR, hρ.swap q1], q2, q3.ren hρ hm⟩
  · intro b hb
    show lookB b B = none
    refine lookB_none fun x hx => ?_
    obtain ⟨b', o, q1, _⟩ := hB x hx
    have := hρ.low _ (lookB_mem q1)
    have hb' : m ≤ b := hb
    simp only at this; omega
  · intro c hc1 hc2
    have hc1' : m ≤ c := hc1
    have e : lookB c (swapR ρ) = none := lookB_none fun x hx => by
      obtain ⟨y, hy, rfl⟩ := List.mem_map.1 hx
      have := hρ.low y hy
      simp only; omega
    simp only [kaR, e]
    rw [if_neg (by omega)]
/-- A frame whose heap is of a few blocks, and of whose temporaries some are known. -/
def St (E : Env) (w0 : World) (hi m N : Nat) (B : List (Nat × AObj)) (L : List (Nat × Value)) (a : Act) (w : World) : Prop :=
  ∃ T : ATmps, N ≤ T.size ∧ (∀ t v, L.lookup t = some v → T.get t = v) ∧ At E w0 hi T (sigL m B) a w
def putL : List (Nat × Value) → KT → KT
  | [], t => t
  | x :: L, t => putL L (t.put x.1 x.2)
theorem putL_of {T : ATmps} : ∀ {L : List (Nat × Value)}, (∀ x ∈ L, x.1 < 256) → (∀ x ∈ L, T.get x.1 = x.2) → putL L (ktOf T) = ktOf T
  | [], _, _ => rfl
  | x :: L, h1, h2 => by
    have e : (ktOf T).put x.1 x.2 = ktOf T := KT.put_eq ((ktOf_get T (h1 x (List.mem_cons_self ..))).trans (h2 x (List.mem_cons_self ..)))
    show putL L ((ktOf T).put x.1 x.2) = _
    rw [e]
    exact putL_of (fun y hy => h1 y (List.mem_cons_of_mem _ hy)) (fun y hy => h2 y (List.mem_cons_of_mem _ hy))
theorem lookup_mem {L : List (Nat × Value)} (hn : (L.map (·.1)).Nodup) {x : Nat × Value} (hx : x ∈ L) : L.lookup x.1 = some x.2 := by
  induction L with
  | nil => cases hx
  | cons z Z ih =>
    rw [List.map_cons, List.nodup_cons] at hn
    rw [List.lookup_cons]
    rcases List.mem_cons.1 hx with rfl | hx
    · rw [beq_self_eq_true]
    · have : (x.1 == z.1) = false := by
        rw [beq_eq_false_iff_ne]
        intro e
        exact hn.1 (List.mem_map.2 ⟨x, hx, e⟩)
      rw [this]
      exact ih hn.2 hx
/-- The keys of a row of temporaries, checked. -/
def keysOk (ks : List Nat) : Bool := ks.all (fun k => Nat.blt k 256) && decide ks.Nodup
theorem keysOk_lt {L : List (Nat × Value)} (h : keysOk (L.map (·.1)) = true) : ∀ x ∈ L, x.1 < 256 := by
  unfold keysOk at h
  rw [Bool.and_eq_true, List.all_eq_true] at h
  intro x hx
  exact Nat.blt_eq.mp (h.1 _ (List.mem_map.2 ⟨x, hx, rfl⟩))
theorem keysOk_nodup {L : List (Nat × Value)} (h : keysOk (L.map (·.1)) = true) : (L.map (·.1)).Nodup := by
  unfold keysOk at h
  rw [Bool.and_eq_true, decide_eq_true_eq] at h
  exact h.2
def rhoB (E : Env) (ρ : Rho) (m : Nat) : Bool := decide (ρ.map (·.1)).Nodup && (decide (ρ.map (·.2)).Nodup && ρ.all (fun x => Nat.blt x.2 m))
theorem rhoB_ok {E : Env} {ρ : Rho} {m : Nat} (h : rhoB E ρ m = true) : RhoOk ρ m := by
  unfold rhoB at h
  rw [Bool.and_eq_true, Bool.and_eq_true, decide_eq_true_eq, decide_eq_true_eq, List.all_eq_true] at h
  exact ⟨h.1, h.2.1, fun x hx => Nat.blt_eq.mp (h.2.2 x hx)⟩
theorem lookup_zip2 {f : Value → Option Value} : ∀ {live : List Nat} {vs vs2 : List Value}, rnL f vs = some vs2 → ∀ t v2, (live.zip vs2).lookup t = some v2 → ∃ v, (live.zip vs).lookup t = some v ∧ f v = some v2
  | [], vs, vs2, h, t, v2, hl => by simp at hl
  | x :: live, [], vs2, h, t, v2, hl => by cases h; simp at hl
  | x :: live, u :: vs, vs2, h, t, v2, hl => by
    unfold rnL at h
    cases q : f u with
    | none => rw [q] at h; cases h
    | some u2 =>
      rw [q] at h
      cases q2 : rnL f vs with
      | none => rw [q2] at h; cases h
      | some vs3 =>
        rw [q2] at h; cases h
        rw [List.zip_cons_cons, List.lookup_cons] at hl ⊢
        cases hx : t == x with
        | true => rw [hx] at hl; cases hl; exact ⟨u, rfl, q⟩
        | false => rw [hx] at hl; exact lookup_zip2 q2 t v2 hl
/-- Two rows of blocks, one by one: names as the list says, objects too. -/
def RnB (ρ : Rho) : List Nat → List AObj → List (Nat × AObj) → Prop
  | [], [], [] => True
  | b :: bl, o :: os, x :: B => (lookB b ρ = some x.1 ∧ RnO ρ o x.2) ∧ RnB ρ bl os B
  | _, _, _ => False
theorem RnB.mem {ρ : Rho} {σ : AS} : ∀ {bl : List Nat} {os : List AObj} {B : List (Nat × AObj)}, RnB ρ bl os B → bl.map σ.get = os.map some → ∀ x ∈ B, ∃ b o, lookB b ρ = some x.1 ∧ σ.get b = some o ∧ RnO ρ o x.2
  | [], [], [], _, _, x, hx => by cases hx
  | b :: bl, o :: os, y :: B, h, k, x, hx => by
    simp only [List.map_cons, List.cons.injEq] at k
    rcases List.mem_cons.1 hx with rfl | hx
    · exact ⟨b, o, h.1.1, k.1, h.1.2⟩
    · exact RnB.mem h.2 k.2 x hx
/-- A piece of code: what the kernel's machine shows of it. -/
theorem St.seg {E : Env} (hP : ProgOk E) {N : Nat} (hN : N ≤ 256) {c : Code} (hwf : codeWf c = true) {kk k : Nat} {w0 : World} {hi m : Nat} {B B2 : List (Nat × AObj)} {Lin : List (Nat × Value)} {live bl : List Nat} {vs vs2 : List Value} {os : List AObj} {tag nx : Nat} {ρ : Rho}
    (hk : keysOk (Lin.map (·.1)) = true) (hlive : ∀ t ∈ live, t < N) (hρ : RhoOk ρ m) (hm : m ≤ hi) (hgl : ∀ g b, E.glob g = some b → lookB b ρ = some b) (hnx : nx ≤ hi)
    (hobs : ∀ t, obsK live bl ((kcode E N c).run (kcall E kk) k (putL Lin t) (sigL m B) (kD N 0) (fun j => kD N (j + 2)) (kD N 1)) = some (tag, vs.map some, os.map some, nx))
    (hv : rnL (rnV ρ) vs = some vs2) (hB : RnB ρ bl os B2) {a : Act} {w : World} (h : St E w0 hi m N B Lin a w) :
    c.wp E.P (fun ex a' w' => ex = (exOf tag).conc ∧ St E w0 hi m N B2 (live.zip vs2) a' w') a w := by
  obtain ⟨T, hT, hL, hAt⟩ := h
  have hp : putL Lin (ktOf T) = ktOf T := putL_of (keysOk_lt hk) (fun x hx => hL _ _ (lookup_mem (keysOk_nodup hk) hx))
  have q := hobs (ktOf T)
  rw [hp] at q
  refine wp_mono (At.round hP hN hwf hAt hT hlive q hnx) ?_
  rintro ex a' w' ⟨rfl, T', σ', g1, g2, g3, g4, g5⟩
  obtain ⟨T2, k1, k2, k3⟩ := g5.keep hρ hm hgl B2 (hB.mem g3) (live.zip vs2) (fun t v hl => by
    obtain ⟨v0, q1, q2⟩ := lookup_zip2 hv t v hl
    rw [g2 t v0 q1]; exact q2)
  exact ⟨rfl, T2, by omega, k2, k3⟩
/-- Less is known. -/
theorem St.less {E : Env} {w0 : World} {hi m N : Nat} {B : List (Nat × AObj)} {L L2 : List (Nat × Value)} {a : Act} {w : World} (h : St E w0 hi m N B L a w) (hL : ∀ t v, L2.lookup t = some v → L.lookup t = some v) : St E w0 hi m N B L2 a w := by
  obtain ⟨T, h1, h2, h3⟩ := h
  exact ⟨T, h1, fun t v hl => h2 t v (hL t v hl), h3⟩

/-- The names below n, as they are. -/
def idR (n : Nat) : Rho := (List.range n).map fun i => (i, i)
theorem idR_ok {n m : Nat} (h : n ≤ m) : RhoOk (idR n) m := by
  refine ⟨?_, ?_, ?_⟩
  · unfold idR; rw [List.map_map]
    have : ((fun x : Nat × Nat => x.1) ∘ fun i : Nat => (i, i)) = id := rfl
    rw [this, List.map_id]; exact List.nodup_range
  · unfold idR; rw [List.map_map]
    have : ((fun x : Nat × Nat => x.2) ∘ fun i : Nat => (i, i)) = id := rfl
    rw [this, List.map_id]; exact List.nodup_range
  · intro x hx
    obtain ⟨i, hi, rfl⟩ := List.mem_map.1 hx
    have := List.mem_range.1 hi
    simp only; omega
theorem idR_look {n b : Nat} (h : b < n) : lookB b (idR n) = some b :=
  lookB_of (idR_ok (Nat.le_refl n)).old (List.mem_map.2 ⟨b, List.mem_range.2 h, rfl⟩)
/-- A value that leads to blocks from lo up to below hi alone: it stands under all names that keep those. -/
def spanV (lo hi : Nat) (v : Value) : Bool := match v with
  | .pointer (some ⟨b, _, none⟩) => Nat.ble lo b && Nat.blt b hi
  | .slice (some ⟨b, _, none⟩) _ _ => Nat.ble lo b && Nat.blt b hi
  | .pointer (some _) | .slice (some _) _ _ | .map (some _) => false
  | .func .. | .iface .. | .agg _ | .tuple _ | .chan (some _) => false
  | v => flat v
def keepsR (lo hi : Nat) (ρ : Rho) : Prop := ∀ b, lo ≤ b → b < hi → lookB b ρ = some b
theorem flat_rn (ρ : Rho) : ∀ {v : Value}, flat v = true → rnV ρ v = some v
  | .bool _, _ | .int _ _, _ | .float _ _, _ | .complex _ _ _, _ | .string _, _ | .pointer none, _ | .slice none _ _, _ | .map none, _ | .chan none, _ | .nilFunc, _ | .nilIface, _ => rfl
theorem spanV_rn {lo hi : Nat} {ρ : Rho} (h : keepsR lo hi ρ) {v : Value} (e : spanV lo hi v = true) : rnV ρ v = some v := by
  unfold spanV at e
  split at e
  · rename_i b o
    rw [Bool.and_eq_true] at e
    have := h b (Nat.le_of_ble_eq_true e.1) (Nat.blt_eq.mp e.2)
    show (lookB b ρ).map _ = _
    rw [this]; rfl
  · rename_i b o n k
    rw [Bool.and_eq_true] at e
    have := h b (Nat.le_of_ble_eq_true e.1) (Nat.blt_eq.mp e.2)
    show (lookB b ρ).map _ = _
    rw [this]; rfl
  all_goals first
    | cases e
    | exact flat_rn ρ e
theorem spanL_rn {lo hi : Nat} {ρ : Rho} (h : keepsR lo hi ρ) {l : List Value} (e : ∀ v ∈ l, spanV lo hi v = true) : rnL (rnV ρ) l = some l := rnL_self fun v hv => spanV_rn h (e v hv)
theorem RnO.span {lo hi : Nat} {ρ : Rho} (h : keepsR lo hi ρ) {cs : List Value} (e : ∀ v ∈ cs, spanV lo hi v = true) (ro : Bool) (gr : Option Nat) : RnO ρ (.cells cs ro gr) (.cells cs ro gr) := ⟨cs, cs, ro, gr, rfl, rfl, spanL_rn h e⟩
theorem RnO.of {ρ : Rho} {cs cs2 : List Value} (e : rnL (rnV ρ) cs = some cs2) (ro : Bool) (gr : Option Nat) : RnO ρ (.cells cs ro gr) (.cells cs2 ro gr) := ⟨cs, cs2, ro, gr, rfl, rfl, e⟩
theorem keepsR_id {lo hi n : Nat} (h : hi ≤ n) : keepsR lo hi (idR n) := fun b _ hb => idR_look (by omega)
theorem keepsR_cons {lo hi : Nat} {x : Nat × Nat} {ρ : Rho} (h : keepsR lo hi ρ) (hx : x.1 < lo ∨ hi ≤ x.1) : keepsR lo hi (x :: ρ) := by
  intro b h1 h2
  unfold lookB
  have : Nat.beq b x.1 = false := by
    cases hb : Nat.beq b x.1 with
    | false => rfl
    | true => have := Nat.eq_of_beq_eq_true hb; omega
  rw [this]; exact h b h1 h2
theorem hgl_of {ρ : Rho} {E : Env} {gM : Nat} (hE : E.glob = oneGlob gM) (h : lookB 0 ρ = some 0) : ∀ g b, E.glob g = some b → lookB b ρ = some b := by
  intro g b hg
  rw [hE] at hg
  unfold oneGlob at hg
  rw [cond_eq_ite] at hg
  split at hg
  · cases hg; exact h
  · cases hg
/-! ### Runs by name: of two of them the kernel looks at the arguments first (of two projections it does not) -/
def kcd (E : Env) (N : Nat) (c : Code) (kc : KCall) (k : Nat) (t : KT) (σ : AS) (kn : KT → AS → KR) (kx : Nat → KT → AS → KR) (kr : KT → AS → KR) : KR := (kcode E N c).run kc k t σ kn kx kr
def kgo (E : Env) (N : Nat) (ops : Array Oper) (l : List Oper) (kc : KCall) (t : KT) (σ : AS) (fs : List Foot) (K : KT → AS → List Foot → KR) : KR := (kreg E N ops [] l).run kc t σ fs K
def kxB (id : Nat) (kn : KT → AS → KR) (kx : Nat → KT → AS → KR) : Nat → KT → AS → KR := fun i t σ => Bool.rec (motive := fun _ => KR) (kx i t σ) (kn t σ) (Nat.beq i id)
/-- As St.seg, its checks by the kernel. -/
theorem St.segK {E : Env} (hP : ProgOk E) {gM : Nat} (hE : E.glob = oneGlob gM) {N : Nat} (hN : Nat.ble N 256 = true) {c : Code} (hwf : codeWf c = true) {kk k : Nat} {w0 : World} {hi m : Nat} {B B2 : List (Nat × AObj)} {Lin : List (Nat × Value)} {live bl : List Nat} {vs vs2 : List Value} {os : List AObj} {tag nx : Nat} {ρ : Rho}
    (hk : keysOk (Lin.map (·.1)) = true) (hlive : (live.all fun t => Nat.blt t N) = true) (hρ : RhoOk ρ m) (h0 : lookB 0 ρ = some 0) (hm : Nat.ble m hi = true) (hnx : Nat.ble nx hi = true)
    (hobs : ∀ t, obsK live bl (kcd E N c (kcall E kk) k (putL Lin t) (sigL m B) (kD N 0) (fun j => kD N (j + 2)) (kD N 1)) = some (tag, vs.map some, os.map some, nx))
    (hv : rnL (rnV ρ) vs = some vs2) (hB : RnB ρ bl os B2) {a : Act} {w : World} (h : St E w0 hi m N B Lin a w) :
    c.wp E.P (fun ex a' w' => ex = (exOf tag).conc ∧ St E w0 hi m N B2 (live.zip vs2) a' w') a w :=
  St.seg hP (Nat.le_of_ble_eq_true hN) hwf hk (fun t ht => Nat.blt_eq.mp (List.all_eq_true.1 hlive t ht)) hρ (Nat.le_of_ble_eq_true hm) (hgl_of hE h0) (Nat.le_of_ble_eq_true hnx) hobs hv hB h
/-- A law's own call, entered: a heap of a few blocks that nobody writes. -/
theorem St.enter {E : Env} {gM : Nat} (hE : E.glob = oneGlob gM) {μ : Mu} {σ : AS} {w : World} {m hi : Nat} (hm : m ≤ hi) (h0 : 0 < m) (hG : GlOk E μ) (hR : Rel μ σ.get w) {args : List Value} {args' : Array Value} (hargs : VRels μ args.toArray args') (hfix : ∀ v ∈ args, fixV m v = true)
    {B : List (Nat × AObj)} (hB : ∀ x ∈ B, x.1 < m ∧ ∃ cs ro gr, σ.get x.1 = some (.cells cs ro gr) ∧ x.2 = .cells cs true gr ∧ ∀ v ∈ cs, fixV m v = true) (ntmps : Nat) (hnt : args.length ≤ ntmps) :
    St E w hi m ntmps B ((List.range args.length).zip args) { tmps := args' ++ Array.replicate (ntmps - args'.size) undef, defers := [] } w := by
  refine ⟨{ tr := startTr args 0 .e, size := args.length + (ntmps - args.length) }, by show ntmps ≤ args.length + (ntmps - args.length); omega, ?_, At.enter (σ2 := sigL m B) hm hG ?_ hR hargs hfix ?_ rfl ntmps⟩
  · intro t v hl
    have hz : ∀ (l : List Value) (i : Nat), ((List.range' i l.length).zip l).lookup t = some v → i ≤ t ∧ l[t - i]? = some v := by
      intro l
      induction l with
      | nil => intro i h; simp at h
      | cons x l ih =>
        intro i h
        rw [List.length_cons, List.range'_succ, List.zip_cons_cons, List.lookup_cons] at h
        cases ht : t == i with
        | true =>
          rw [ht] at h; cases h
          obtain rfl := beq_iff_eq.1 ht
          exact ⟨Nat.le_refl _, by simp⟩
        | false =>
          rw [ht] at h
          obtain ⟨q1, q2⟩ := ih (i + 1) h
          refine ⟨by omega, ?_⟩
          rw [show t - i = (t - (i + 1)) + 1 from by omega, List.getElem?_cons_succ]; exact q2
    rw [List.range_eq_range'] at hl
    obtain ⟨_, q⟩ := hz args 0 hl
    have hlt : t < args.length := by
      have := (List.getElem?_eq_some_iff.1 q).1
      omega
    show ((startTr args 0 .e).get t).getD undef = v
    rw [startTr_get, if_pos (by omega), q]; rfl
  · intro g b hg
    rw [hE] at hg
    unfold oneGlob at hg
    rw [cond_eq_ite] at hg
    split at hg
    · cases hg; exact h0
    · cases hg
  · intro c o2 ho
    obtain ⟨q1, cs, ro, gr, q2, q3, q4⟩ := hB _ (lookB_mem (show lookB c B = some o2 from ho))
    exact ⟨q1, cs, ro, gr, q2, q3, q4⟩
theorem kcs {E : Env} {N : Nat} {a b : Code} {kc : KCall} {k : Nat} {t : KT} {σ : AS} {kn : KT → AS → KR} {kx : Nat → KT → AS → KR} {kr : KT → AS → KR} :
    kcd E N (.seq a b) kc k t σ kn kx kr = kcd E N a kc k t σ (fun t σ => kcd E N b kc k t σ kn kx kr) kx kr := eq_of_heq (heq_of_eq rfl)
theorem kcb {E : Env} {N id : Nat} {b : Code} {kc : KCall} {k : Nat} {t : KT} {σ : AS} {kn : KT → AS → KR} {kx : Nat → KT → AS → KR} {kr : KT → AS → KR} :
    kcd E N (.block id b) kc k t σ kn kx kr = kcd E N b kc k t σ kn (kxB id kn kx) kr := eq_of_heq (heq_of_eq rfl)
end
end Go.VAbs
