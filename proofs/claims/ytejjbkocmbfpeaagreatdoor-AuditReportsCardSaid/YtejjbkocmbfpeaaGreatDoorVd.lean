/- Runs along one path, library functions by their contracts, and the frame of a law's proof. -/
import Derived.Test.YtejjbkocmbfpeaaGreatDoorVc
import Derived.Below
import Derived.Lib.Replace
import Derived.Lib.Join
import Derived.Maps.Own
import Derived.Sort.KeysCollected
import Derived.CallsIn
import Derived.SizedLaws
import Derived.Carry
import Derived.LaidMore
/-! The abstract machine, part 26: runs along one path. Where a condition may not be known, the answer is given ahead, and the condition is noted. -/
namespace Go.VAbs
open Go
set_option linter.unusedVariables false
noncomputable section
set_option linter.unusedSimpArgs false

/-- Answers to come, and what has been noted. -/
structure OSt where
  orc : List Bool
  cs : List (Bool × Bool)
def OSt.holds (q : OSt) : Prop := ∀ p ∈ q.cs, p.1 = p.2
def ask (b : Bool) (q : OSt) : Option (Bool × OSt) := match q.orc with
  | [] => none
  | x :: r => some (x, ⟨r, (b, x) :: q.cs⟩)
def need (b : Bool) (q : OSt) : OSt := ⟨q.orc, (b, true) :: q.cs⟩
theorem ask_holds {b x : Bool} {q q' : OSt} (h : ask b q = some (x, q')) (hh : q'.holds) : b = x ∧ q.holds := by
  unfold ask at h
  split at h
  · cases h
  · simp only [Option.some.injEq, Prod.mk.injEq] at h
    obtain ⟨rfl, rfl⟩ := h
    exact ⟨hh (_, _) (by simp), fun p hp => hh p (by simp [hp])⟩
theorem need_holds {b : Bool} {q : OSt} (hh : (need b q).holds) : b = true ∧ q.holds := ⟨hh (_, _) (by simp [need]), fun p hp => hh p (by simp [need, hp])⟩

abbrev OCall := Nat → List Value → AS → OSt → Option (Value × AS × OSt)

def oslice (s : ByteArray) (lo hi : Option Value) : Option (Bool × Value) :=
  match hi, lo with
  | none, none => some (true, .string (s.extract 0 s.size))
  | none, some (.int _ l) => some (decide (0 ≤ l) && decide (l ≤ (s.size : Int)), .string (s.extract l.toNat s.size))
  | some (.int _ h), none => some (decide (0 ≤ h) && decide (h ≤ (s.size : Int)), .string (s.extract 0 h.toNat))
  | some (.int _ h), some (.int _ l) => some ((decide (0 ≤ h) && decide (h ≤ (s.size : Int))) && (decide (0 ≤ l) && decide (l ≤ (h.toNat : Int))), .string (s.extract l.toNat h.toNat))
  | _, _ => none
theorem oslice_eq {s : ByteArray} {lo hi : Option Value} {v : Value} (h : oslice s lo hi = some (true, v)) : (abounds s.size s.size lo hi none).map (fun r => Value.string (s.extract r.1 r.2.1)) = some v := by
  unfold oslice at h
  split at h
  · simp only [Option.some.injEq, Prod.mk.injEq, true_and] at h; subst h; rfl
  · simp only [Option.some.injEq, Prod.mk.injEq] at h
    obtain ⟨h1, rfl⟩ := h
    delta abounds; simp only [abound, h1, cond_true, Option.map_some]
  · simp only [Option.some.injEq, Prod.mk.injEq] at h
    obtain ⟨h1, rfl⟩ := h
    delta abounds; simp only [abound, h1, cond_true, Option.map_some]
  · simp only [Option.some.injEq, Prod.mk.injEq, Bool.and_eq_true (decide _ && decide _)] at h
    obtain ⟨⟨h1, h2⟩, rfl⟩ := h
    delta abounds; simp only [abound, h1, h2, cond_true, Option.map_some]
  · cases h

/-- The bounds of a part of a slice, and what must hold of them. -/
def oslice2 (len cap : Nat) (lo hi : Option Value) : Option (Bool × Nat × Nat) :=
  match hi, lo with
  | none, none => some (Nat.ble len cap, 0, len)
  | none, some (.int _ l) => some ((decide (0 ≤ l) && decide (l ≤ (len : Int))) && Nat.ble len cap, l.toNat, len)
  | some (.int _ h), none => some ((decide (0 ≤ h) && decide (h ≤ (cap : Int))) && Nat.ble h.toNat cap, 0, h.toNat)
  | some (.int _ h), some (.int _ l) => some (((decide (0 ≤ h) && decide (h ≤ (cap : Int))) && (decide (0 ≤ l) && decide (l ≤ (h.toNat : Int)))) && Nat.ble h.toNat cap, l.toNat, h.toNat)
  | _, _ => none
theorem oslice2_eq {len cap : Nat} {lo hi : Option Value} {l h : Nat} (e : oslice2 len cap lo hi = some (true, l, h)) : abounds len cap lo hi none = some (l, h, cap) ∧ Nat.ble h cap = true := by
  unfold oslice2 at e
  split at e
  · simp only [Option.some.injEq, Prod.mk.injEq] at e
    obtain ⟨h1, rfl, rfl⟩ := e
    exact ⟨rfl, h1⟩
  · simp only [Option.some.injEq, Prod.mk.injEq, Bool.and_eq_true (decide _ && decide _)] at e
    obtain ⟨⟨h1, h2⟩, rfl, rfl⟩ := e
    exact ⟨by delta abounds; simp only [abound, h1, cond_true], h2⟩
  · simp only [Option.some.injEq, Prod.mk.injEq, Bool.and_eq_true (decide _ && decide _)] at e
    obtain ⟨⟨h1, h2⟩, rfl, rfl⟩ := e
    exact ⟨by delta abounds; simp only [abound, h1, cond_true], h2⟩
  · simp only [Option.some.injEq, Prod.mk.injEq, Bool.and_eq_true (decide _ && decide _), Bool.and_eq_true (_ && (decide _ && decide _))] at e
    obtain ⟨⟨⟨h1, h3⟩, h2⟩, rfl, rfl⟩ := e
    exact ⟨by delta abounds; simp only [abound, h1, h3, cond_true], h2⟩
  · cases e

def noCall : ACall := fun _ _ _ => none

/-- Operations that may lean on what is not known. -/
def aoperS (E : Env) (T : ATmps) (o : Oper) (σ : AS) (q : OSt) : Option (Option (Value × AS × Foot × OSt)) :=
  match o.op with
  | .next it true => match ev E T it with
    | some (.pointer (some ⟨b, 0, none⟩)) => match σ.get b with
      | some (.iter s p) => match ask (Nat.blt p s.size) q with
        | some (true, q') => some (some (.tuple #[.bool true, goInt p, .int .i32 (Utf8.decode s p).1], σ.put b (.iter s (p + (Utf8.decode s p).2)), .all (olds σ.next [b]), q'))
        | some (false, q') => some (some (.tuple #[.bool false], σ, .all [], q'))
        | none => some none
      | _ => none
    | _ => none
  | .pick c a b => match ev E T c with
    | some (.bool x) => match ask x q with
      | some (true, q') => match ev E T a with
        | some v => some (some (v, σ, .pure, q'))
        | none => some none
      | some (false, q') => match ev E T b with
        | some v => some (some (v, σ, .pure, q'))
        | none => some none
      | none => some none
    | _ => none
  | .binOp .add _ x y _ => match ev E T x, ev E T y with
    | some (.string a), some (.string b) => some (some (.string (a ++ b), σ, .pure, need (decide (((a.size + b.size : Nat) : Int) ≤ IntKind.i64.max)) q))
    | _, _ => none
  | .index t x i => match E.und t, ev E T x, ev E T i with
    | some .string, some (.string s), some (.int _ z) => some (some (.int .u8 (s.data.getD z.toNat 0).toNat, σ, .pure, need (decide (0 ≤ z) && decide (z.toNat < s.data.size)) q))
    | _, _, _ => none
  | .slice t x lo hi none => match E.und t, ev E T x, evOpt E T lo, evOpt E T hi with
    | some .string, some (.string s), some lo, some hi => match oslice s lo hi with
      | some (b, v) => some (some (v, σ, .pure, need b q))
      | none => some none
    | some (.slice e), some (.slice (some a) len cap), some lo, some hi => match E.size e, σ.get a.block, oslice2 len cap lo hi with
      | some n, some (.cells _ _ gr), some (b, l, h) => cond (grOk gr n) (some (some (.slice (some (a.add (l * n))) (h - l) (cap - l), σ, .rd a.block, need b q))) (some none)
      | _, _, _ => some none
    | _, _, _, _ => none
  | _ => none

def aoperO (E : Env) (call : OCall) (T : ATmps) (o : Oper) (σ : AS) (q : OSt) : Option (Value × AS × Foot × OSt) :=
  match acallee E T o.op with
  | some (n, args) =>
    match call n args { σ with ws := [] } q with
    | some (v, σ', q') => some (v, { σ' with ws := σ'.ws ++ σ.ws }, .all (olds σ.next σ'.ws), q')
    | none => none
  | none => match aoperS E T o σ q with
    | some r => r
    | none => (aoper E noCall T o σ).map fun r => (r.1, r.2.1, r.2.2, q)

def awantedO (ops : Array Oper) (T : ATmps) (o : Oper) (q : OSt) : Option (Bool × OSt) :=
  match o.guard with
  | none => some (true, q)
  | some (j, want) => match (ops[j]?).bind (·.dst) with
    | some t => match T.get t with
      | .bool b => match ask b q with
        | some (x, q') => some (x == want, q')
        | none => none
      | _ => some (false, q)
    | none => some (false, q)

def aopsO (E : Env) (call : OCall) (ops : Array Oper) : List Oper → ATmps → AS → OSt → Option (ATmps × AS × List Foot × OSt)
  | [], T, σ, q => some (T, σ, [], q)
  | o :: r, T, σ, q =>
    match awantedO ops T o q with
    | some (true, q) => match aoperO E call T o σ q with
      | some (v, σ', f, q) => match T.put o.dst v with
        | some T' => match aopsO E call ops r T' σ' q with
          | some (T2, σ2, fs, q) => some (T2, σ2, f :: fs, q)
          | none => none
        | none => none
      | none => none
    | some (false, q) => match T.put o.dst undef with
      | some T' => match aopsO E call ops r T' σ q with
        | some (T2, σ2, fs, q) => some (T2, σ2, .pure :: fs, q)
        | none => none
      | none => none
    | none => none

def aloopO (run : ATmps → AS → OSt → Option (AExit × ATmps × AS × OSt)) : Nat → ATmps → AS → OSt → Option (AExit × ATmps × AS × OSt)
  | 0, _, _, _ => none
  | k + 1, T, σ, q => match run T σ q with
    | some (.normal, T', σ', q') => aloopO run k T' σ' q'
    | some (e, T', σ', q') => some (e, T', σ', q')
    | none => none

def acodeO (E : Env) (call : OCall) (k : Nat) : Code → ATmps → AS → OSt → Option (AExit × ATmps × AS × OSt)
  | .skip, T, σ, q => some (.normal, T, σ, q)
  | .label _, T, σ, q => some (.normal, T, σ, q)
  | .region _ ops false, T, σ, q => match aopsO E call ops ops.toList T σ q with
    | some (T', σ', _, q') => some (.normal, T', σ', q')
    | none => none
  | .region _ ops true, T, σ, q => match aopsO E call ops ops.toList T σ q with
    | some (T', σ', fs, q') => cond (noClash fs (pairsOf ops)) (some (.normal, T', σ', q')) none
    | none => none
  | .seq a b, T, σ, q => match acodeO E call k a T σ q with
    | some (.normal, T', σ', q') => acodeO E call k b T' σ' q'
    | r => r
  | .cond c a b, T, σ, q => match ev E T c with
    | some (.bool x) => match ask x q with
      | some (true, q') => acodeO E call k a T σ q'
      | some (false, q') => acodeO E call k b T σ q'
      | none => none
    | _ => none
  | .block id b, T, σ, q => match acodeO E call k b T σ q with
    | some (.exit id', T', σ', q') => cond (Nat.beq id' id) (some (.normal, T', σ', q')) (some (.exit id', T', σ', q'))
    | r => r
  | .loop b, T, σ, q => aloopO (acodeO E call k b) k T σ q
  | .scope b, T, σ, q => acodeO E call k b T σ q
  | .exit id, T, σ, q => some (.exit id, T, σ, q)
  | .ret, T, σ, q => some (.ret, T, σ, q)
  | _, _, _, _ => none

def afuncO (E : Env) (call : OCall) (k : Nat) (fn : Func) (args : List Value) (σ : AS) (q : OSt) : Option (Value × AS × OSt) :=
  match fn.body with
  | none => none
  | some c => match acodeO E call k c { tr := startTr args 0 .e, size := args.length + (fn.ntmps - args.length) } σ q with
    | some (.normal, T, σ', q') | some (.ret, T, σ', q') => (ares E T σ' fn.results.toList).map fun l => (resValue l, σ', q')
    | _ => none
/-- sym: functions that are run along a path; pO: library functions, along a path. -/
def acallO (E : Env) (sym : Nat → Bool) (pO : Nat → Option (List Value → AS → OSt → Option (Value × AS × OSt))) : Nat → OCall
  | 0 => fun _ _ _ _ => none
  | k + 1 => fun n args σ q => match pO n with
    | some g => g args σ q
    | none => match sym n, E.prim n, E.fn n with
      | true, none, some fn => afuncO E (acallO E sym pO k) (k + 1) fn args σ q
      | _, _, _ => (acall E (k + 1) n args σ).map fun r => (r.1, r.2, q)

/-! ### What is noted holds: then it is the machine's run -/
def OSound (call : ACall) (callO : OCall) : Prop := ∀ n args σ q v σ' q', callO n args σ q = some (v, σ', q') → q'.holds → call n args σ = some (v, σ') ∧ q.holds

section
variable {E : Env} {call : ACall} {callO : OCall} {T T' : ATmps} {σ σ' : AS} {q q' : OSt}

theorem aoper_noCall {o : Oper} (h : acallee E T o.op = none) : aoper E noCall T o σ = aoper E call T o σ := by
  unfold aoper; rw [h]

theorem aoperS_ok {o : Oper} (hn : acallee E T o.op = none) {v : Value} {f : Foot} (e : aoperS E T o σ q = some (some (v, σ', f, q'))) (hh : q'.holds) : aoper E call T o σ = some (v, σ', f) ∧ q.holds := by
  unfold aoperS at e
  unfold aoper
  rw [hn]
  cases ho : o.op with
  | next it str =>
    rw [ho] at e
    cases str with
    | false => simp at e
    | true =>
      simp only at e
      split at e
      · rename_i b hev
        split at e
        · rename_i s p hg
          split at e
          · rename_i q1 hask
            simp only [Option.some.injEq, Prod.mk.injEq] at e
            obtain ⟨rfl, rfl, rfl, rfl⟩ := e
            obtain ⟨h1, h2⟩ := ask_holds hask hh
            refine ⟨?_, h2⟩
            have hg' : AS.get { σ with ws := [] } b = some (.iter s p) := hg
            simp only [apure, aalloc, amem, hev, hg', h1, cond_true, Option.map_some, amemFoot]
            rfl
          · rename_i q1 hask
            simp only [Option.some.injEq, Prod.mk.injEq] at e
            obtain ⟨rfl, rfl, rfl, rfl⟩ := e
            obtain ⟨h1, h2⟩ := ask_holds hask hh
            refine ⟨?_, h2⟩
            have hg' : AS.get { σ with ws := [] } b = some (.iter s p) := hg
            simp only [apure, aalloc, amem, hev, hg', h1, cond_false, Option.map_some, amemFoot]
            rfl
          · cases e
        · cases e
      · cases e
  | pick c x y =>
    rw [ho] at e
    simp only at e
    split at e
    · rename_i b hc
      split at e
      · rename_i q1 hask
        split at e
        · rename_i u hu
          simp only [Option.some.injEq, Prod.mk.injEq] at e
          obtain ⟨rfl, rfl, rfl, rfl⟩ := e
          obtain ⟨rfl, h2⟩ := ask_holds hask hh
          exact ⟨by simp only [apure, hc, hu], h2⟩
        · cases e
      · rename_i q1 hask
        split at e
        · rename_i u hu
          simp only [Option.some.injEq, Prod.mk.injEq] at e
          obtain ⟨rfl, rfl, rfl, rfl⟩ := e
          obtain ⟨rfl, h2⟩ := ask_holds hask hh
          exact ⟨by simp only [apure, hc, hu], h2⟩
        · cases e
      · cases e
    · cases e
  | binOp op t x y yt =>
    rw [ho] at e
    cases op <;> simp only at e <;> first
      | (cases e; done)
      | skip
    split at e
    · rename_i s1 s2 hx hy
      simp only [Option.some.injEq, Prod.mk.injEq] at e
      obtain ⟨rfl, rfl, rfl, rfl⟩ := e
      obtain ⟨h1, h2⟩ := need_holds hh
      have h1 := of_decide_eq_true h1
      refine ⟨?_, h2⟩
      have hb : pureVal E.P (binOp .add t (.string s1) (.string s2)) = some (.string (s1 ++ s2)) := by
        have : binOp .add t (.string s1) (.string s2) = pure (.string (s1 ++ s2)) := by
          show Op.stringOp .add s1 s2 = _
          unfold Op.stringOp
          simp only
          rw [if_neg (by omega)]
        rw [this]; rfl
      simp only [apure, hx, hy, abin, isLit, Bool.and_self, cond_true, hb]
    · cases e
  | index t x i =>
    rw [ho] at e
    simp only at e
    split at e
    · rename_i s k z hu hx hi
      simp only [Option.some.injEq, Prod.mk.injEq] at e
      obtain ⟨rfl, rfl, rfl, rfl⟩ := e
      obtain ⟨h1, h2⟩ := need_holds hh
      simp only [Bool.and_eq_true, decide_eq_true_eq] at h1
      refine ⟨?_, h2⟩
      have : s.data[z.toNat]? = some (s.data.getD z.toNat 0) := by
        rw [Array.getD_eq_getD_getElem?, Array.getElem?_eq_getElem h1.2]; rfl
      simp only [apure, hx, hi, aindex, hu, h1.1, decide_true, cond_true, this, Option.map_some]
    · cases e
  | slice t x lo hi mx =>
    rw [ho] at e
    cases mx with
    | some _ => simp at e
    | none =>
      simp only at e
      split at e
      · rename_i s lo' hi' hu hx hlo hhi
        split at e
        · rename_i b u hos
          simp only [Option.some.injEq, Prod.mk.injEq] at e
          obtain ⟨rfl, rfl, rfl, rfl⟩ := e
          obtain ⟨rfl, h2⟩ := need_holds hh
          refine ⟨?_, h2⟩
          have := oslice_eq hos
          have hm : evOpt E T none = some none := rfl
          simp only [apure, hx, hlo, hhi, hm, aslice, hu, this]
        · cases e
      · rename_i e0 a len cap lo' hi' hu hx hlo hhi
        split at e
        · rename_i n c ro gr b l h hs hg hos
          rw [cond_eq_ite] at e
          split at e
          · rename_i hgr
            simp only [Option.some.injEq, Prod.mk.injEq] at e
            obtain ⟨rfl, rfl, rfl, rfl⟩ := e
            obtain ⟨rfl, h2⟩ := need_holds hh
            refine ⟨?_, h2⟩
            obtain ⟨hb1, hb2⟩ := oslice2_eq hos
            have hm : evOpt E T none = some none := rfl
            simp only [apure, hx, hlo, hhi, hm, aslice, hu, aalloc, aslice2, hb1, hs, hg, hb2, hgr, Bool.and_self, cond_true, Option.map_some]
          · cases e
        · cases e
      · cases e
  | _ => rw [ho] at e; simp at e

theorem aoperO_ok (hc : OSound call callO) {o : Oper} {v : Value} {f : Foot} (e : aoperO E callO T o σ q = some (v, σ', f, q')) (hh : q'.holds) : aoper E call T o σ = some (v, σ', f) ∧ q.holds := by
  unfold aoperO at e
  split at e
  · rename_i n args hcal
    split at e
    · rename_i v0 σ1 q1 hcall
      simp only [Option.some.injEq, Prod.mk.injEq] at e
      obtain ⟨rfl, rfl, rfl, rfl⟩ := e
      obtain ⟨h1, h2⟩ := hc _ _ _ _ _ _ _ hcall hh
      refine ⟨?_, h2⟩
      unfold aoper
      rw [hcal]
      simp only [h1]
    · cases e
  · rename_i hcal
    split at e
    · rename_i r hr
      subst e
      exact aoperS_ok hcal hr hh
    · simp only [Option.map_eq_some_iff, Prod.mk.injEq] at e
      obtain ⟨⟨v0, σ1, f1⟩, h1, rfl, rfl, rfl, rfl⟩ := e
      exact ⟨by rw [← aoper_noCall hcal]; exact h1, hh⟩

theorem awantedO_ok {ops : Array Oper} {o : Oper} {b : Bool} (e : awantedO ops T o q = some (b, q')) (hh : q'.holds) : awanted ops T o = some b ∧ q.holds := by
  unfold awantedO at e
  unfold awanted
  cases hg : o.guard with
  | none => rw [hg] at e; simp only [Option.some.injEq, Prod.mk.injEq] at e; obtain ⟨rfl, rfl⟩ := e; exact ⟨rfl, hh⟩
  | some g =>
    obtain ⟨j, want⟩ := g
    rw [hg] at e
    simp only at e ⊢
    cases hd : (ops[j]?).bind (·.dst) with
    | none => rw [hd] at e; simp only [Option.some.injEq, Prod.mk.injEq] at e; obtain ⟨rfl, rfl⟩ := e; exact ⟨rfl, hh⟩
    | some t =>
      rw [hd] at e
      simp only at e ⊢
      cases hv : T.get t with
      | bool x =>
        rw [hv] at e
        simp only at e ⊢
        split at e
        · rename_i hask
          simp only [Option.some.injEq, Prod.mk.injEq] at e
          obtain ⟨rfl, rfl⟩ := e
          obtain ⟨rfl, h2⟩ := ask_holds hask hh
          exact ⟨rfl, h2⟩
        · cases e
      | _ => rw [hv] at e; simp only [Option.some.injEq, Prod.mk.injEq] at e; obtain ⟨rfl, rfl⟩ := e; exact ⟨rfl, hh⟩

theorem aopsO_ok (hc : OSound call callO) {ops : Array Oper} : ∀ (r : List Oper) (T : ATmps) (σ : AS) (q : OSt) (T' : ATmps) (σ' : AS) (fs : List Foot) (q' : OSt),
    aopsO E callO ops r T σ q = some (T', σ', fs, q') → q'.holds → aops E call ops r T σ = some (T', σ', fs) ∧ q.holds
  | [], T, σ, q, T', σ', fs, q', e, hh => by
    simp only [aopsO, Option.some.injEq, Prod.mk.injEq] at e
    obtain ⟨rfl, rfl, rfl, rfl⟩ := e
    exact ⟨rfl, hh⟩
  | o :: r, T, σ, q, T', σ', fs, q', e, hh => by
    simp only [aopsO] at e
    split at e
    · rename_i q1 hw
      split at e
      · rename_i v σ1 f q2 hop
        split at e
        · rename_i T1 hput
          split at e
          · rename_i T2 σ2 fs2 q3 hrest
            simp only [Option.some.injEq, Prod.mk.injEq] at e
            obtain ⟨rfl, rfl, rfl, rfl⟩ := e
            obtain ⟨h1, h2⟩ := aopsO_ok hc r _ _ _ _ _ _ _ hrest hh
            obtain ⟨h3, h4⟩ := aoperO_ok hc hop h2
            obtain ⟨h5, h6⟩ := awantedO_ok hw h4
            exact ⟨by simp only [aops, h5, h3, hput, h1], h6⟩
          · cases e
        · cases e
      · cases e
    · rename_i q1 hw
      split at e
      · rename_i T1 hput
        split at e
        · rename_i T2 σ2 fs2 q3 hrest
          simp only [Option.some.injEq, Prod.mk.injEq] at e
          obtain ⟨rfl, rfl, rfl, rfl⟩ := e
          obtain ⟨h1, h2⟩ := aopsO_ok hc r _ _ _ _ _ _ _ hrest hh
          obtain ⟨h5, h6⟩ := awantedO_ok hw h2
          exact ⟨by simp only [aops, h5, hput, h1], h6⟩
        · cases e
      · cases e
    · cases e

theorem aloopO_ok {run : ATmps → AS → Option (AExit × ATmps × AS)} {runO : ATmps → AS → OSt → Option (AExit × ATmps × AS × OSt)}
    (hr : ∀ T σ q e T' σ' q', runO T σ q = some (e, T', σ', q') → q'.holds → run T σ = some (e, T', σ') ∧ q.holds) : ∀ (k : Nat) (T : ATmps) (σ : AS) (q : OSt) (e : AExit) (T' : ATmps) (σ' : AS) (q' : OSt),
    aloopO runO k T σ q = some (e, T', σ', q') → q'.holds → aloop run k T σ = some (e, T', σ') ∧ q.holds
  | 0, _, _, _, _, _, _, _, h, _ => by simp [aloopO] at h
  | k + 1, T, σ, q, e, T', σ', q', h, hh => by
    simp only [aloopO] at h
    split at h
    · rename_i T1 σ1 q1 h1
      obtain ⟨h2, h3⟩ := aloopO_ok hr k _ _ _ _ _ _ _ h hh
      obtain ⟨h4, h5⟩ := hr _ _ _ _ _ _ _ h1 h3
      exact ⟨by simp only [aloop, h4, h2], h5⟩
    · rename_i e1 T1 σ1 q1 hne h1
      simp only [Option.some.injEq, Prod.mk.injEq] at h
      obtain ⟨rfl, rfl, rfl, rfl⟩ := h
      obtain ⟨h4, h5⟩ := hr _ _ _ _ _ _ _ h1 hh
      refine ⟨?_, h5⟩
      simp only [aloop, h4]
    · cases h

theorem acodeO_ok (hc : OSound call callO) (k : Nat) : ∀ (c : Code) (T : ATmps) (σ : AS) (q : OSt) (e : AExit) (T' : ATmps) (σ' : AS) (q' : OSt),
    acodeO E callO k c T σ q = some (e, T', σ', q') → q'.holds → acode E call k c T σ = some (e, T', σ') ∧ q.holds := by
  intro c
  induction c with
  | skip => intro T σ q e T' σ' q' h hh; simp only [acodeO, Option.some.injEq, Prod.mk.injEq] at h; obtain ⟨rfl, rfl, rfl, rfl⟩ := h; exact ⟨rfl, hh⟩
  | label l => intro T σ q e T' σ' q' h hh; simp only [acodeO, Option.some.injEq, Prod.mk.injEq] at h; obtain ⟨rfl, rfl, rfl, rfl⟩ := h; exact ⟨rfl, hh⟩
  | exit l => intro T σ q e T' σ' q' h hh; simp only [acodeO, Option.some.injEq, Prod.mk.injEq] at h; obtain ⟨rfl, rfl, rfl, rfl⟩ := h; exact ⟨rfl, hh⟩
  | ret => intro T σ q e T' σ' q' h hh; simp only [acodeO, Option.some.injEq, Prod.mk.injEq] at h; obtain ⟨rfl, rfl, rfl, rfl⟩ := h; exact ⟨rfl, hh⟩
  | region id ops draws =>
    intro T σ q e T' σ' q' h hh
    cases draws with
    | false =>
      simp only [acodeO] at h
      split at h
      · rename_i T1 σ1 fs q1 h1
        simp only [Option.some.injEq, Prod.mk.injEq] at h
        obtain ⟨rfl, rfl, rfl, rfl⟩ := h
        obtain ⟨h2, h3⟩ := aopsO_ok hc _ _ _ _ _ _ _ _ h1 hh
        exact ⟨by simp only [acode, h2], h3⟩
      · cases h
    | true =>
      simp only [acodeO] at h
      split at h
      · rename_i T1 σ1 fs q1 h1
        rw [cond_eq_ite] at h
        split at h
        · rename_i hcl
          simp only [Option.some.injEq, Prod.mk.injEq] at h
          obtain ⟨rfl, rfl, rfl, rfl⟩ := h
          obtain ⟨h2, h3⟩ := aopsO_ok hc _ _ _ _ _ _ _ _ h1 hh
          exact ⟨by simp only [acode, h2, hcl, cond_true], h3⟩
        · cases h
      · cases h
  | seq a b iha ihb =>
    intro T σ q e T' σ' q' h hh
    simp only [acodeO] at h
    split at h
    · rename_i T1 σ1 q1 h1
      obtain ⟨h2, h3⟩ := ihb _ _ _ _ _ _ _ h hh
      obtain ⟨h4, h5⟩ := iha _ _ _ _ _ _ _ h1 h3
      exact ⟨by simp only [acode, h4, h2], h5⟩
    · rename_i hne
      obtain ⟨h4, h5⟩ := iha _ _ _ _ _ _ _ h hh
      refine ⟨?_, h5⟩
      simp only [acode, h4]
      cases e with
      | normal => exact (hne _ _ _ h).elim
      | _ => rfl
  | cond c a b iha ihb =>
    intro T σ q e T' σ' q' h hh
    simp only [acodeO] at h
    split at h
    · rename_i x hx
      split at h
      · rename_i q1 hask
        obtain ⟨h2, h3⟩ := iha _ _ _ _ _ _ _ h hh
        obtain ⟨rfl, h4⟩ := ask_holds hask h3
        exact ⟨by simp only [acode, hx, h2], h4⟩
      · rename_i q1 hask
        obtain ⟨h2, h3⟩ := ihb _ _ _ _ _ _ _ h hh
        obtain ⟨rfl, h4⟩ := ask_holds hask h3
        exact ⟨by simp only [acode, hx, h2], h4⟩
      · cases h
    · cases h
  | block id b ih =>
    intro T σ q e T' σ' q' h hh
    simp only [acodeO] at h
    split at h
    · rename_i id' T1 σ1 q1 h1
      rw [cond_eq_ite] at h
      split at h
      · rename_i hid
        simp only [Option.some.injEq, Prod.mk.injEq] at h
        obtain ⟨rfl, rfl, rfl, rfl⟩ := h
        obtain ⟨h2, h3⟩ := ih _ _ _ _ _ _ _ h1 hh
        exact ⟨by simp only [acode, h2, hid, cond_true], h3⟩
      · rename_i hid
        simp only [Option.some.injEq, Prod.mk.injEq] at h
        obtain ⟨rfl, rfl, rfl, rfl⟩ := h
        obtain ⟨h2, h3⟩ := ih _ _ _ _ _ _ _ h1 hh
        have hid' : Nat.beq id' id = false := by cases hb : Nat.beq id' id with | false => rfl | true => exact absurd hb hid
        exact ⟨by simp only [acode, h2, hid', cond_false], h3⟩
    · rename_i hne
      obtain ⟨h2, h3⟩ := ih _ _ _ _ _ _ _ h hh
      refine ⟨?_, h3⟩
      simp only [acode, h2]
      cases e with
      | exit id' => exact (hne _ _ _ _ h).elim
      | _ => rfl
  | loop b ih =>
    intro T σ q e T' σ' q' h hh
    simp only [acodeO] at h
    exact aloopO_ok (fun T σ q e T' σ' q' h hh => ih T σ q e T' σ' q' h hh) k _ _ _ _ _ _ _ h hh
  | scope b ih =>
    intro T σ q e T' σ' q' h hh
    simp only [acodeO] at h
    exact ih T σ q e T' σ' q' h hh
  | _ => intro T σ q e T' σ' q' h hh; simp [acodeO] at h

theorem acallO_ok {sym : Nat → Bool} {pO : Nat → Option (List Value → AS → OSt → Option (Value × AS × OSt))}
    (hp : ∀ n g, pO n = some g → ∃ g', E.prim n = some g' ∧ ∀ args σ q v σ' q', g args σ q = some (v, σ', q') → q'.holds → g' args σ = some (v, σ') ∧ q.holds) :
    ∀ k, OSound (acall E k) (acallO E sym pO k)
  | 0 => by intro n args σ q v σ' q' h; simp [acallO] at h
  | k + 1 => by
    have ih := acallO_ok (sym := sym) hp k
    intro n args σ q v σ' q' h hh
    simp only [acallO] at h
    split at h
    · rename_i g hg
      obtain ⟨g', h1, h2⟩ := hp n g hg
      obtain ⟨h3, h4⟩ := h2 _ _ _ _ _ _ h hh
      exact ⟨by simp only [acall, h1, h3], h4⟩
    · split at h
      · rename_i fn hsym hpr hfn
        unfold afuncO at h
        split at h
        · cases h
        · rename_i c hb
          have fin : ∀ (ex : AExit) (T1 : ATmps) (σ1 : AS) (q1 : OSt), (ex = .normal ∨ ex = .ret) → acodeO E (acallO E sym pO k) (k + 1) c { tr := startTr args 0 .e, size := args.length + (fn.ntmps - args.length) } σ q = some (ex, T1, σ1, q1) →
              (ares E T1 σ1 fn.results.toList).map (fun l => (resValue l, σ1, q1)) = some (v, σ', q') → acall E (k + 1) n args σ = some (v, σ') ∧ q.holds := by
            intro ex T1 σ1 q1 hex h1 h2
            simp only [Option.map_eq_some_iff, Prod.mk.injEq] at h2
            obtain ⟨l, hl, rfl, rfl, rfl⟩ := h2
            obtain ⟨h3, h4⟩ := acodeO_ok ih (k + 1) _ _ _ _ _ _ _ _ h1 hh
            refine ⟨?_, h4⟩
            simp only [acall, hpr, hfn, afunc, hb]
            rcases hex with rfl | rfl
            · simp only [h3, hl, Option.map_some]
            · simp only [h3, hl, Option.map_some]
          split at h
          · rename_i T1 σ1 q1 h1; exact fin _ _ _ _ (.inl rfl) h1 h
          · rename_i T1 σ1 q1 h1; exact fin _ _ _ _ (.inr rfl) h1 h
          · cases h
      · simp only [Option.map_eq_some_iff, Prod.mk.injEq] at h
        obtain ⟨⟨v0, σ1⟩, h1, rfl, rfl, rfl⟩ := h
        exact ⟨h1, hh⟩
end
end
end Go.VAbs

/-! The abstract machine, part 27: functions of Go's library, by their contracts. -/
namespace Go.VAbs
open Go Go.RowKit
set_option linter.unusedVariables false
noncomputable section
set_option linter.unusedSimpArgs false

section
variable {μ : Mu} {g : AH} {w w' : World}

theorem Fr.below (h : Below w.heap.size w w') : Fr μ g w μ g w' :=
  ⟨h.os, h.tape, h.output, h.size, fun c hc _ => h.block c hc, .refl μ, fun b l h1 h2 => (by rw [h1] at h2; cases h2), fun _ _ _ h => h, fun _ _ _ h => h⟩
theorem Rel.below (h : Rel μ g w) (hb : Below w.heap.size w w') : Rel μ g w' := by
  refine ⟨fun b l hl => Nat.lt_of_lt_of_le (h.size b l hl) hb.size, fun b l o hl ho => ?_, h.inj⟩
  rw [hb.block _ (h.size b l hl)]
  exact h.obj b l o hl ho
theorem Sim.below (h : Rel μ g w) (hb : Below w.heap.size w w') (lo hi : Nat) {K : Mu → Prop} (k : K μ) : Sim μ g w lo hi g w' K :=
  ⟨μ, .below hb, h.below hb, fun b h k => absurd h k, k⟩
/-- A new object, made by a call that leaves the old ones alone. -/
theorem Sim.fresh (h : Rel μ g w) (hb : Below w.heap.size w w') {n : Nat} (hn : μ n = none) {o : AObj} {l : Loc} (hl : w.heap.size ≤ l.blk) (hlt : l.blk < w'.heap.size)
    (ho : ORel μ o l w'.heap[l.blk]?) : Sim μ g w n (n + 1) (upd g n o) w' (fun μ' => μ' = updMu μ n l) := by
  have le := updMu_le (l := l) hn
  have hg : ∀ b l', μ b = some l' → upd g n o b = g b := by
    intro b l' hb
    unfold upd
    rw [if_neg (fun e => by rw [e, hn] at hb; cases hb)]
  refine ⟨updMu μ n l, ⟨hb.os, hb.tape, hb.output, hb.size, fun c hc _ => hb.block c hc, le, ?_, ?_, fun b l' hb ⟨o', h1, h2⟩ => ⟨o', by rw [← hg b l' hb]; exact h1, h2⟩⟩, ⟨?_, ?_, ?_⟩, ?_, rfl⟩
  · intro b l' h1 h2
    unfold updMu at h2
    by_cases e : b = n
    · rw [if_pos e] at h2; cases h2; exact .inl (by omega)
    · rw [if_neg e, h1] at h2; cases h2
  · intro b l' hb ⟨o', h1, h2⟩
    exact ⟨o', by rw [← hg b l' hb]; exact h1, h2⟩
  · intro b l' hb'
    unfold updMu at hb'
    by_cases e : b = n
    · rw [if_pos e] at hb'; cases hb'; exact hlt
    · rw [if_neg e] at hb'; exact Nat.lt_of_lt_of_le (h.size b l' hb') hb.size
  · intro b l' o' hb' ho'
    unfold updMu at hb'
    by_cases e : b = n
    · rw [if_pos e] at hb'; cases hb'
      unfold upd at ho'; rw [if_pos e] at ho'; cases ho'
      exact ho.mono le
    · rw [if_neg e] at hb'
      unfold upd at ho'; rw [if_neg e] at ho'
      rw [hb.block _ (h.size b l' hb')]
      exact (h.obj b l' o' hb' ho').mono le
  · intro b b' l1 l2 h1 h2 hne hb' hown hal
    unfold updMu at h1 h2
    by_cases e : b = n
    · rw [if_pos e] at h1; cases h1
      rw [if_neg (fun e' => hne (e.trans e'.symm))] at h2
      have := h.size b' l2 h2
      omega
    · rw [if_neg e] at h1
      by_cases e' : b' = n
      · rw [if_pos e'] at h2; cases h2
        have := h.size b l1 h1
        omega
      · rw [if_neg e'] at h2
        obtain ⟨o1, a1, a2⟩ := hown
        obtain ⟨o2, b1, b2⟩ := hal
        unfold upd at a1 b1
        rw [if_neg e] at a1; rw [if_neg e'] at b1
        exact h.inj b b' l1 l2 h1 h2 hne hb' ⟨o1, a1, a2⟩ ⟨o2, b1, b2⟩
  · intro b h1 h2
    unfold updMu at h2
    by_cases e : b = n
    · subst e; omega
    · rw [if_neg e] at h2; exact absurd h1 h2
end

theorem VRels.of_list {μ : Mu} {v : Value} {r : List Value} {args' : Array Value} (h : VRels μ (v :: r).toArray args') : ∃ v' r', args' = (v' :: r').toArray ∧ VRel μ v v' ∧ VRels μ r.toArray r'.toArray := by
  obtain ⟨l, rfl⟩ : ∃ l : List Value, args' = l.toArray := ⟨args'.toList, by simp⟩
  cases l with
  | nil => have := h.1; simp at this
  | cons v' r' =>
    refine ⟨v', r', rfl, h.2 0 v v' (by simp) (by simp), by have := h.1; simpa using this, fun i a b h1 h2 => h.2 (i + 1) a b (by simpa using h1) (by simpa using h2)⟩
theorem VRels.of_nil {μ : Mu} {args' : Array Value} (h : VRels μ ([] : List Value).toArray args') : args' = #[] := by
  have := h.1
  simp at this
  exact Array.eq_empty_of_size_eq_zero this.symm

/-- What stands in internal/bytealg.MaxLen's place, whatever it is. -/
def maxLenAt (σ : AS) (mb : Nat) : Option Int := match σ.get mb with
  | some (.cells [.int .i64 m] _ _) => some m
  | _ => none
theorem maxLen_cell {E : Env} {μ : Mu} {σ : AS} {w : World} {gM mb : Nat} {m : Int} (hgl : E.glob gM = some mb) (hG : GlOk E μ) (hR : Rel μ σ.get w) (h : maxLenAt σ mb = some m) : w.cell? ⟨gM, 0, none⟩ = some (.int .i64 m) := by
  unfold maxLenAt at h
  split at h
  · rename_i m0 ro gr hg
    cases h
    obtain ⟨l, h1, h2, h3⟩ := hG gM mb hgl
    obtain ⟨arr, t, fr, k1, k2, k3, _⟩ := hR.obj mb l _ h1 hg
    rw [h3] at k2 k3
    have hs : 0 < arr.size := by simp at k2; omega
    have hv := k3 0 (.int .i64 m) arr[0] rfl (by simp [hs])
    have := hv.eq_of_flat rfl
    rw [h2] at k1
    simp [World.cell?, k1, hs, this]
  · cases h

/-! ### strings.Replace -/
def pReplaceL (mb : Nat) : List Value → AS → Option (Value × AS)
  | [.string s, .string o, .string n, .int .i64 k], σ => match maxLenAt σ mb with
    | some _ => cond (Nat.blt s.size 4294967281 && Nat.ble 1 o.size && Nat.ble (s.size + Lib.countB s o * n.size) 140737488355328) (some (.string ⟨(Lib.replace s.data.toList o.data.toList n.data.toList k).toArray⟩, σ)) none
    | none => none
  | _, _ => none
def ReplaceC (P : Program) (n gM : Nat) : Prop := ∀ (s old new : ByteArray) (k m : Int) (w : World), s.size < 4294967281 → w.cell? ⟨gM, 0, none⟩ = some (.int .i64 m) → 1 ≤ old.size → s.size + Lib.countB s old * new.size ≤ 140737488355328 →
  Calls P n #[.string s, .string old, .string new, .int .i64 k] w fun e w' => e = .returned (.string ⟨(Lib.replace s.data.toList old.data.toList new.data.toList k).toArray⟩) ∧ Below w.heap.size w w'
theorem replace_ok {E : Env} {n gM mb : Nat} (hgl : E.glob gM = some mb) (h : ReplaceC E.P n gM) : PrimOk E n (pReplaceL mb) := by
  constructor
  · intro args σ v σ' e
    unfold pReplaceL at e
    split at e
    · split at e
      · rw [cond_eq_ite] at e
        split at e
        · simp only [Option.some.injEq, Prod.mk.injEq] at e; obtain ⟨_, rfl⟩ := e; exact .refl _
        · cases e
      · cases e
    · cases e
  · intro args σ v σ' wf e
    unfold pReplaceL at e
    split at e
    · rename_i s o r k
      split at e
      · rename_i m hm
        rw [cond_eq_ite] at e
        split at e
        · rename_i hc
          simp only [Option.some.injEq, Prod.mk.injEq] at e
          obtain ⟨rfl, rfl⟩ := e
          simp only [Bool.and_eq_true, Nat.blt_eq, Nat.ble_eq] at hc
          intro μ w args' hG hR hfree hargs
          obtain ⟨a1, r1, rfl, q1, hargs⟩ := hargs.of_list
          obtain ⟨a2, r2, q2e, q2, hargs⟩ := hargs.of_list
          obtain ⟨a3, r3, q3e, q3, hargs⟩ := hargs.of_list
          obtain ⟨a4, r4, q4e, q4, hargs⟩ := hargs.of_list
          have h5 := hargs.of_nil
          have e1 := List.toArray_inj q2e
          have e2 := List.toArray_inj q3e
          have e3 := List.toArray_inj q4e
          have e4 : r4 = [] := by simpa using h5
          subst e1 e2 e3 e4
          rw [q1.eq_of_flat rfl, q2.eq_of_flat rfl, q3.eq_of_flat rfl, q4.eq_of_flat rfl]
          refine (h s o r k m w hc.1.1 (maxLen_cell hgl hG hR hm) hc.1.2 hc.2).mono ?_
          rintro ex w' ⟨rfl, hb⟩
          exact ⟨_, rfl, Sim.below hR hb _ _ (.flat rfl)⟩
        · cases e
      · cases e
    · cases e

/-! ### strings.Join -/
def strsL : List Value → Option (List ByteArray)
  | [] => some []
  | .string s :: r => match strsL r with
    | some l => some (s :: l)
    | none => none
  | _ => none
theorem strsL_get : ∀ {l : List Value} {ss : List ByteArray}, strsL l = some ss → l = ss.map Value.string
  | [], ss, h => by simp [strsL] at h; subst h; rfl
  | .string s :: r, ss, h => by
    simp only [strsL] at h
    split at h
    · rename_i l hl
      simp only [Option.some.injEq] at h; subst h
      rw [List.map_cons, ← strsL_get hl]
    · cases h
  | .bool _ :: _, _, h | .int _ _ :: _, _, h | .float _ _ :: _, _, h | .complex _ _ _ :: _, _, h | .pointer _ :: _, _, h | .slice _ _ _ :: _, _, h | .map _ :: _, _, h | .chan _ :: _, _, h
  | .func _ _ _ :: _, _, h | .nilFunc :: _, _, h | .iface _ _ :: _, _, h | .nilIface :: _, _, h | .agg _ :: _, _, h | .tuple _ :: _, _, h => by simp [strsL] at h
def pJoinL : List Value → AS → Option (Value × AS)
  | [.slice none 0 _, .string _], σ => some (.string ⟨#[]⟩, σ)
  | [.slice (some a) n c, .string sep], σ => cond (Nat.ble n c && Nat.ble n 140737488355328 && Nat.blt 0 n) (match σ.read a n with
    | some l => match strsL l with
      | some ss => cond (Nat.ble (Lib.join (ss.map (·.data.toList)) sep.data.toList).length 140737488355328) (some (.string ⟨(Lib.join (ss.map (·.data.toList)) sep.data.toList).toArray⟩, σ)) none
      | none => none
    | none => none) none
  | _, _ => none
structure JoinC (P : Program) (n : Nat) : Prop where
  none : ∀ (a : Option Addr) (c : Nat) (sep : ByteArray) (w : World), Calls P n #[.slice a 0 c, .string sep] w fun e w' => e = .returned (.string ⟨#[]⟩) ∧ w' = w
  some : ∀ (bk o c : Nat) (xs : List ByteArray) (sep : ByteArray) (w : World), (∀ (j : Nat) x, xs[j]? = some x → w.cell? ⟨bk, o + j, Option.none⟩ = some (.string x)) → bk < w.heap.size → xs.length ≤ 140737488355328 → xs.length ≤ c →
    (Lib.join (xs.map (·.data.toList)) sep.data.toList).length ≤ 140737488355328 →
    Calls P n #[.slice (some ⟨bk, o, Option.none⟩) xs.length c, .string sep] w fun e w' => e = .returned (.string ⟨(Lib.join (xs.map (·.data.toList)) sep.data.toList).toArray⟩) ∧ Below w.heap.size w w'
theorem join_ok {E : Env} {n : Nat} (h : JoinC E.P n) : PrimOk E n pJoinL := by
  constructor
  · intro args σ v σ' e
    unfold pJoinL at e
    split at e
    · simp only [Option.some.injEq, Prod.mk.injEq] at e; obtain ⟨_, rfl⟩ := e; exact .refl _
    · simp only [cond_eq_ite] at e
      split at e
      · split at e
        · split at e
          · split at e
            · simp only [Option.some.injEq, Prod.mk.injEq] at e; obtain ⟨_, rfl⟩ := e; exact .refl _
            · cases e
          · cases e
        · cases e
      · cases e
    · cases e
  · intro args σ v σ' wf e
    unfold pJoinL at e
    split at e
    · rename_i c sep
      simp only [Option.some.injEq, Prod.mk.injEq] at e
      obtain ⟨rfl, rfl⟩ := e
      intro μ w args' hG hR hfree hargs
      obtain ⟨a1, r1, rfl, q1, hargs⟩ := hargs.of_list
      obtain ⟨a2, r2, q2e, q2, hargs⟩ := hargs.of_list
      have e1 := List.toArray_inj q2e
      have e2 : r2 = [] := by simpa using hargs.of_nil
      subst e1 e2
      rw [q1.eq_of_flat rfl, q2.eq_of_flat rfl]
      refine (h.none none c sep w).mono ?_
      rintro ex w' ⟨rfl, rfl⟩
      exact ⟨_, rfl, Sim.pure hR _ _ (.flat rfl)⟩
    · rename_i a k c sep
      simp only [cond_eq_ite] at e
      split at e
      · rename_i hc
        simp only [Bool.and_eq_true, Nat.ble_eq, Nat.blt_eq] at hc
        split at e
        · rename_i l hl
          split at e
          · rename_i ss hss
            split at e
            · rename_i hlen
              simp only [Option.some.injEq, Prod.mk.injEq] at e
              obtain ⟨rfl, rfl⟩ := e
              intro μ w args' hG hR hfree hargs
              obtain ⟨a1, r1, rfl, q1, hargs⟩ := hargs.of_list
              obtain ⟨a2, r2, q2e, q2, hargs⟩ := hargs.of_list
              have e1 := List.toArray_inj q2e
              have e2 : r2 = [] := by simpa using hargs.of_nil
              subst e1 e2
              rw [q2.eq_of_flat rfl]
              cases q1 with
              | flat hf => simp [Go.VAbs.flat] at hf
              | @slice _ a' _ _ c' hL =>
                rcases hL with ⟨q, _, _⟩ | ⟨hA, hcap⟩
                · omega
                · obtain ⟨loc, m1, m2, rfl⟩ := hA
                  obtain ⟨hlk, cs, ro, gr, g1, g2⟩ := AS.read_some hl
                  have htk := takeCells_some g2
                  have hlen1 : l.length = k := htk.2.1
                  have hss' := strsL_get hss
                  have hkk : ss.length = k := by rw [← hlen1, hss']; simp
                  have hcc : ss.length ≤ c' := by
                    rcases hcap with q | ⟨_, _, _, _, q, _⟩ <;> omega
                  subst hkk
                  refine (h.some loc.blk (loc.sh + a.off) c' ss sep w ?_ (hR.size _ _ m1) hc.1.2 hcc (Nat.le_of_ble_eq_true hlen)).mono ?_
                  · intro j x hj
                    have hjl : j < ss.length := (List.getElem?_eq_some_iff.1 hj).1
                    have hcj : cs[a.off + j]? = some (.string x) := by
                      rw [← htk.2.2 j hjl, hss', List.getElem?_map, hj]; rfl
                    obtain ⟨v', p1, p2⟩ := hR.cell m1 g1 hcj
                    rw [p2.eq_of_flat rfl] at p1
                    rw [Nat.add_assoc]; exact p1
                  · rintro ex w' ⟨rfl, hb⟩
                    exact ⟨_, rfl, Sim.below hR hb _ _ (.flat rfl)⟩
            · cases e
          · cases e
        · cases e
      · cases e
    · cases e
end
end Go.VAbs

/-! The abstract machine, part 28: the sorted keys of a map. -/
namespace Go.VAbs
open Go Go.RowKit Go.WideElems
open Go.Proofs (encStr)
open Go.WideMaps (keyOf_string_mk)
set_option linter.unusedVariables false
noncomputable section
set_option linter.unusedSimpArgs false

def bltB : List UInt8 → List UInt8 → Bool
  | _, [] => false
  | [], _ :: _ => true
  | a :: x, b :: y => cond (Nat.blt a.toNat b.toNat) true (cond (Nat.blt b.toNat a.toNat) false (bltB x y))
theorem bltB_lt : ∀ {x y : List UInt8}, bltB x y = true → x < y
  | x, [], h => by simp [bltB] at h
  | [], b :: y, _ => by simp
  | a :: x, b :: y, h => by
    simp only [bltB, cond_eq_ite] at h
    rw [List.cons_lt_cons_iff]
    split at h
    · rename_i h1
      exact .inl (UInt8.lt_iff_toNat_lt.2 (Nat.blt_eq.mp h1))
    · rename_i h1
      split at h
      · cases h
      · rename_i h2
        rw [Nat.blt_eq] at h1 h2
        exact .inr ⟨UInt8.toNat_inj.1 (by omega), bltB_lt h⟩

def keysOf : List MapEntry → Option (List (List UInt8))
  | [] => some []
  | e :: r => match e.key with
    | .string s => cond (Nat.ble s.size maxLen) (match keysOf r with | some l => some (s.data.toList :: l) | none => none) none
    | _ => none
def bornOk : Nat → List MapEntry → Nat → Bool
  | lo, [], cl => Nat.ble lo cl
  | lo, e :: r, cl => cond (Nat.ble lo e.born) (bornOk (e.born + 1) r cl) false
def insB (x : List UInt8) : List (List UInt8) → List (List UInt8)
  | [] => [x]
  | y :: r => cond (bltB y x) (y :: insB x r) (x :: y :: r)
def sortB : List (List UInt8) → List (List UInt8)
  | [] => []
  | x :: r => insB x (sortB r)
def risB : List (List UInt8) → Bool
  | [] => true
  | [_] => true
  | x :: y :: r => cond (bltB x y) (risB (y :: r)) false
theorem insB_perm (x : List UInt8) : ∀ l, (insB x l).Perm (x :: l)
  | [] => .refl _
  | y :: r => by
    simp only [insB, cond_eq_ite]
    split
    · exact ((insB_perm x r).cons y).trans (.swap x y r)
    · exact .refl _
theorem sortB_perm : ∀ l, (sortB l).Perm l
  | [] => .refl _
  | x :: r => (insB_perm x _).trans ((sortB_perm r).cons x)
theorem risB_pairwise : ∀ {l : List (List UInt8)}, risB l = true → l.Pairwise (· < ·)
  | [], _ => .nil
  | [x], _ => List.pairwise_singleton _ _
  | x :: y :: r, h => by
    simp only [risB, cond_eq_ite] at h
    split at h
    · rename_i h1
      have ih := risB_pairwise h
      refine List.pairwise_cons.2 ⟨?_, ih⟩
      intro z hz
      rcases List.mem_cons.1 hz with rfl | hz
      · exact bltB_lt h1
      · exact List.lt_trans (bltB_lt h1) ((List.pairwise_cons.1 ih).1 z hz)
    · cases h
theorem keysOf_map : ∀ {es : List MapEntry} {l : List (List UInt8)}, keysOf es = some l → es.map (·.key) = l.map encStr ∧ ∀ e ∈ es, ∃ s : ByteArray, e.key = .string s ∧ s.size ≤ maxLen
  | [], l, h => by simp [keysOf] at h; subst h; exact ⟨rfl, by simp⟩
  | e :: r, l, h => by
    simp only [keysOf] at h
    split at h
    · rename_i s hs
      rw [cond_eq_ite] at h
      split at h
      · rename_i hlen
        split at h
        · rename_i l0 h0
          simp only [Option.some.injEq] at h; subst h
          obtain ⟨i1, i2⟩ := keysOf_map h0
          refine ⟨?_, ?_⟩
          · rw [List.map_cons, List.map_cons, i1, hs]

          · intro x hx
            rcases List.mem_cons.1 hx with rfl | hx
            · exact ⟨s, hs, Nat.le_of_ble_eq_true hlen⟩
            · exact i2 x hx
        · cases h
      · cases h
    · cases h
theorem bornOk_spec : ∀ {es : List MapEntry} {lo cl : Nat}, bornOk lo es cl = true → (∀ e ∈ es, lo ≤ e.born ∧ e.born < cl) ∧ (es.map (·.born)).Nodup
  | [], _, _, _ => ⟨by simp, List.nodup_nil⟩
  | e :: r, lo, cl, h => by
    simp only [bornOk, cond_eq_ite] at h
    split at h
    · rename_i h1
      have h1 := Nat.le_of_ble_eq_true h1
      obtain ⟨i1, i2⟩ := bornOk_spec h
      have top : ∀ {es : List MapEntry} {lo cl : Nat}, bornOk lo es cl = true → lo ≤ cl := by
        intro es
        induction es with
        | nil => intro lo cl h; exact Nat.le_of_ble_eq_true h
        | cons e r ih =>
          intro lo cl h
          simp only [bornOk, cond_eq_ite] at h
          split at h
          · rename_i h2
            have := ih h
            have := Nat.le_of_ble_eq_true h2
            omega
          · cases h
      refine ⟨?_, ?_⟩
      · intro x hx
        rcases List.mem_cons.1 hx with rfl | hx
        · have := top h; omega
        · have := i1 x hx; omega
      · rw [List.map_cons]
        refine List.nodup_cons.2 ⟨?_, i2⟩
        intro hm
        obtain ⟨x, hx, hxe⟩ := List.mem_map.1 hm
        have := (i1 x hx).1
        omega
    · cases h

def pSortedL (it : Nat) : List Value → AS → Option (Value × AS)
  | [.func (.func f) first captured], σ => cond (Nat.beq f it && first.isEmpty) (match captured.toList with
    | [.pointer (some ⟨cb, 0, none⟩)] => match σ.get cb with
      | some (.cells [.map (some b)] _ none) => match σ.get b with
        | some (.map es cl) => match keysOf es with
          | some ks => cond (bornOk 0 es cl && risB (sortB ks) && Nat.ble es.length 8796093022208) (match es with
            | [] => some (.slice none 0 0, σ)
            | _ => some (.slice (some ⟨σ.next, 0, none⟩) es.length es.length, σ.alloc (.cells ((sortB ks).map encStr) false (some 1)))) none
          | none => none
        | _ => none
      | _ => none
    | _ => none) none
  | _, _ => none

def SortedC (P : Program) (c it : Nat) (K : TypeId) : Prop := ∀ (Bm b nn : Nat) (D0 : DataW Unit) (R : Value → Option (DataW Unit × List MemPlace)) (w : World), Bm < w.heap.size → w.cell? ⟨Bm, 0, none⟩ = some (.map (some b)) →
  w.ownsMap P K R b nn D0 → Maps.size D0 ≤ maxLen → Maps.size D0 * 16 ≤ 140737488355328 →
  Calls P c #[.func (.func it) #[] #[.pointer (some ⟨Bm, 0, none⟩)]] w fun e w' => ∃ (v : Value) (ss : List (List UInt8)), e = .returned v ∧ ss.Perm (strKeys D0) ∧
    w'.ownsRow w.heap.size K 1 v ss.length ((ss.mergeSort (fun x y => decide (x ≤ y))).map encStr) ∧ (v = .slice none 0 0 ↔ ss = []) ∧ Below w.heap.size w w'

theorem own_of {P : Program} {K : TypeId} (hK : P.underlying K = some .string) {w : World} {b cl : Nat} {es' : Array MapEntry} (hw : w.heap[b]? = some (.map es' cl)) {ks : List (List UInt8)} (hk : keysOf es'.toList = some ks)
    (hb : bornOk 0 es'.toList cl = true) (hnd : ks.Nodup) (hsz : es'.size ≤ maxLen) :
    ∃ D0 : DataW Unit, w.ownsMap P K (fun _ => some (.lit (.bool true), [])) b es'.size D0 ∧ (strKeys D0).Perm ks ∧ Maps.size D0 = es'.size := by
  obtain ⟨k1, k2⟩ := keysOf_map hk
  obtain ⟨b1, b2⟩ := bornOk_spec hb
  have hrd : ∀ x ∈ es'.toList, ∃ s : ByteArray, x.key = .string s ∧ rd P K (fun _ => some (DataW.lit (H := Unit) (.bool true), ([] : List MemPlace))) x = some (.string s.data.toList, .lit (.bool true)) := by
    intro x hx
    obtain ⟨s, h1, h2⟩ := k2 x hx
    refine ⟨s, h1, ?_⟩
    unfold rd
    rw [h1, keyOf_string_mk hK h2]
    rfl
  have hperm := Go.WideShapes.sorted_perm (es'.toList.map (rg P K (fun _ => some (DataW.lit (H := Unit) (.bool true), ([] : List MemPlace)))))
  refine ⟨_, ⟨es', cl, hw, ⟨hsz, ⟨fun x hx => (b1 x hx).2, b2, ?_⟩, fun x hx => ?_⟩, Nat.le_refl _, rfl⟩, ?_, ?_⟩
  · rw [k1]
    refine List.pairwise_map.2 (hnd.imp ?_)
    intro a b hne e
    exact hne (encStr_inj e)
  · obtain ⟨s, _, h2⟩ := hrd x hx; exact ⟨_, h2⟩
  · show (List.map (fun p : Lit × DataW Unit => strOf p.1) _).Perm ks
    refine (hperm.map _).trans ?_
    have : (es'.toList.map (rg P K (fun _ => some (DataW.lit (H := Unit) (.bool true), ([] : List MemPlace))))).map (fun p => strOf p.1) = ks := by
      have e1 : ks.map encStr = (((es'.toList.map (rg P K (fun _ => some (DataW.lit (H := Unit) (.bool true), ([] : List MemPlace))))).map (fun p => strOf p.1)).map encStr) := by
        rw [← k1, List.map_map, List.map_map]
        refine List.map_congr_left ?_
        intro x hx
        obtain ⟨s, h1, h2⟩ := hrd x hx
        simp only [Function.comp, rg, h2, Option.getD_some, strOf, h1]

      have inj : ∀ (l m : List (List UInt8)), l.map encStr = m.map encStr → l = m := by
        intro l
        induction l with
        | nil => intro m h; cases m with
          | nil => rfl
          | cons _ _ => simp at h
        | cons x l ih => intro m h; cases m with
          | nil => simp at h
          | cons y m =>
            rw [List.map_cons, List.map_cons, List.cons.injEq] at h
            rw [encStr_inj h.1, ih m h.2]
      exact (inj _ _ e1).symm
    rw [this]
  · show List.length _ = _
    rw [hperm.length_eq]; simp

theorem keysOf_rel {μ : Mu} : ∀ {l l' : List MapEntry}, ERels μ l l' → keysOf l' = keysOf l
  | [], [], _ => rfl
  | _ :: _, [], h => by have := h.1; simp at this
  | [], _ :: _, h => by have := h.1; simp at this
  | e :: l, e' :: l', h => by
    obtain ⟨h1, h2⟩ := h.tail
    simp only [keysOf]
    rw [h1.1, keysOf_rel h2]
theorem bornOk_rel {μ : Mu} : ∀ {l l' : List MapEntry} {lo cl : Nat}, ERels μ l l' → bornOk lo l' cl = bornOk lo l cl
  | [], [], _, _, _ => rfl
  | _ :: _, [], _, _, h => by have := h.1; simp at this
  | [], _ :: _, _, _, h => by have := h.1; simp at this
  | e :: l, e' :: l', lo, cl, h => by
    obtain ⟨h1, h2⟩ := h.tail
    simp only [bornOk]
    rw [h1.2.2.1, bornOk_rel h2]

theorem sorted_ok {E : Env} {c it : Nat} {K : TypeId} (hK : E.P.underlying K = some .string) (h : SortedC E.P c it K) : PrimOk E c (pSortedL it) := by
  have inv : ∀ {args : List Value} {σ σ' : AS} {v : Value}, pSortedL it args σ = some (v, σ') → ∃ cb ro b es cl ks, args = [.func (.func it) #[] #[.pointer (some ⟨cb, 0, none⟩)]] ∧ σ.get cb = some (.cells [.map (some b)] ro none) ∧ σ.get b = some (.map es cl) ∧ keysOf es = some ks ∧
      bornOk 0 es cl = true ∧ risB (sortB ks) = true ∧ es.length ≤ 8796093022208 ∧ ((es = [] ∧ v = .slice none 0 0 ∧ σ' = σ) ∨ (es ≠ [] ∧ v = .slice (some ⟨σ.next, 0, none⟩) es.length es.length ∧ σ' = σ.alloc (.cells ((sortB ks).map encStr) false (some 1)))) := by
    intro args σ σ' v e
    unfold pSortedL at e
    simp only [cond_eq_ite] at e
    split at e
    · rename_i f first captured
      split at e
      · rename_i hc
        rw [Bool.and_eq_true] at hc
        have hf := Nat.eq_of_beq_eq_true hc.1
        have hfi : first = #[] := by simpa using hc.2
        subst hf hfi
        split at e
        · rename_i cb hcap
          have hcap' : captured = #[.pointer (some ⟨cb, 0, none⟩)] := by apply Array.toList_inj.1; simpa using hcap
          subst hcap'
          split at e
          · rename_i b ro hr
            split at e
            · rename_i es cl hg
              split at e
              · rename_i ks hks
                split at e
                · rename_i hcc
                  simp only [Bool.and_eq_true, Nat.ble_eq] at hcc
                  split at e
                  · simp only [Option.some.injEq, Prod.mk.injEq] at e
                    obtain ⟨rfl, rfl⟩ := e
                    exact ⟨cb, ro, b, _, cl, ks, rfl, hr, hg, hks, hcc.1.1, hcc.1.2, hcc.2, .inl ⟨rfl, rfl, rfl⟩⟩
                  · rename_i hne
                    simp only [Option.some.injEq, Prod.mk.injEq] at e
                    obtain ⟨rfl, rfl⟩ := e
                    exact ⟨cb, ro, b, _, cl, ks, rfl, hr, hg, hks, hcc.1.1, hcc.1.2, hcc.2, .inr ⟨fun q => hne q, rfl, rfl⟩⟩
                · cases e
              · cases e
            · cases e
          · cases e
        · cases e
      · cases e
    · cases e
  constructor
  · intro args σ v σ' e
    obtain ⟨_, _, _, _, _, _, _, _, _, _, _, _, _, q | q⟩ := inv e
    · rw [q.2.2]; exact .refl _
    · rw [q.2.2]; exact .alloc _ _
  · intro args σ v σ' wf e
    obtain ⟨cb, ro, b, es, cl, ks, rfl, hr, hg, hks, hb, hris, hlen, hres⟩ := inv e
    intro μ w args' hG hR hfree hargs
    obtain ⟨a1, r1, rfl, q1, hargs⟩ := hargs.of_list
    have e2 : r1 = [] := by simpa using hargs.of_nil
    subst e2
    cases q1 with
    | flat hf => simp [Go.VAbs.flat] at hf
    | @func _ _ f' _ c' s1 s2 i1 i2 =>
      have hf' : f' = #[] := Array.eq_empty_of_size_eq_zero (by simpa using s1.symm)
      subst hf'
      have hc1 : c'.size = 1 := by simpa using s2.symm
      obtain ⟨p', hp'⟩ : ∃ p', c' = #[p'] := Array.size_eq_one_iff.1 hc1
      subst hp'
      have hpr := i2 0 (.pointer (some ⟨cb, 0, none⟩)) p' rfl rfl
      cases hpr with
      | flat hf => simp [Go.VAbs.flat] at hf
      | @ptr _ a' hA =>
        obtain ⟨l, m1, m2, rfl⟩ := hA
        have hgr : l.grown = none := by
          obtain ⟨_, _, _, _, _, _, k4, _⟩ := hR.obj cb l _ m1 hr
          exact k4
        have hsh := l.ok hgr
        obtain ⟨u, p1, p2⟩ := hR.cell (o := 0) m1 hr rfl
        cases p2 with
        | flat hf => simp [Go.VAbs.flat] at hf
        | @map _ lb hlb =>
          obtain ⟨_, es', hw', hrel⟩ := hR.map hlb hg
          have hk' : keysOf es'.toList = some ks := by rw [keysOf_rel hrel]; exact hks
          have hb' : bornOk 0 es'.toList cl = true := by rw [bornOk_rel hrel]; exact hb
          have hlen' : es'.size = es.length := by have := hrel.1; simpa using this.symm
          have hpw := risB_pairwise hris
          have hnd : ks.Nodup := (sortB_perm ks).nodup_iff.1 (hpw.imp (fun {x y} h e => by subst e; exact List.lt_irrefl _ h))
          obtain ⟨D0, d1, d2, d3⟩ := own_of hK hw' hk' hb' hnd (by rw [hlen']; unfold maxLen; omega)
          simp only [hsh, Nat.zero_add, Nat.add_zero] at p1 ⊢
          refine (h l.blk lb.blk es'.size D0 _ w (hR.size _ _ m1) p1 d1 (by rw [d3, hlen']; unfold maxLen; omega) (by rw [d3, hlen']; omega)).mono ?_
          rintro ex w' ⟨v', ss, rfl, hperm, hrow, hnil, hbel⟩
          have hssk : ss.Perm ks := hperm.trans d2
          have hsort : ss.mergeSort (fun x y => decide (x ≤ y)) = sortB ks := by
            have tr : ∀ a b c : List UInt8, leB a b = true → leB b c = true → leB a c = true := fun a b c h1 h2 => by simp only [leB, decide_eq_true_eq] at *; exact List.le_trans h1 h2
            have to : ∀ a b : List UInt8, (leB a b || leB b a) = true := fun a b => by simp only [leB, Bool.or_eq_true, decide_eq_true_eq]; exact List.le_total a b
            refine List.Perm.eq_of_pairwise (le := fun a b => leB a b = true) (fun a b _ _ h1 h2 => ?_) (List.pairwise_mergeSort tr to ss) ?_ (((List.mergeSort_perm ss leB).trans hssk).trans (sortB_perm ks).symm)
            · simp only [leB, decide_eq_true_eq] at h1 h2
              exact List.le_antisymm h1 h2
            · exact hpw.imp (fun {x y} h => by simp only [leB, decide_eq_true_eq]; exact List.le_of_lt h)
          rw [hsort] at hrow
          have hkl : ks.length = es.length := by
            have := (keysOf_map hks).1
            have := congrArg List.length this
            simpa using this.symm
          have hsl : ss.length = es.length := by rw [hssk.length_eq, hkl]
          rcases hres with ⟨rfl, rfl, rfl⟩ | ⟨hne, rfl, rfl⟩
          · have : ss = [] := List.eq_nil_of_length_eq_zero (by rw [hsl]; rfl)
            exact ⟨_, rfl, by rw [hnil.2 this]; exact Sim.below hR hbel _ _ (.flat rfl)⟩
          · rcases hrow.2 with ⟨_, hz⟩ | ⟨gb, cap, cur, rfl, hbase, hgb, r1, r2, r3, r4⟩
            · exact absurd (List.eq_nil_of_length_eq_zero (by omega)) hne
            · rw [hsl] at r1 r4 ⊢
              have hn : μ σ.next = none := hfree σ.next (Nat.le_refl _) (by simp [AS.alloc])
              have hlt : gb < w'.heap.size := (Array.getElem?_eq_some_iff.1 hgb).1
              have hcl : ((sortB ks).map encStr).length = es.length := by rw [List.length_map, (sortB_perm ks).length_eq, hkl]
              have ho : ORel μ (.cells ((sortB ks).map encStr) false (some 1)) ⟨gb, 0, some 1, cap, fun q => nomatch q⟩ w'.heap[gb]? := by
                refine ⟨cur, K, (0, 0), hgb, by show 0 + _ ≤ _; rw [hcl]; omega, ?_, rfl, by show cap ≤ _; omega, fun _ => .inl rfl⟩
                intro i x x' hx hx'
                have hi : i < es.length := by rw [← hcl]; exact (List.getElem?_eq_some_iff.1 hx).1
                have : (cur.toList.take (es.length * 1))[i]? = cur[i]? := by
                  rw [List.getElem?_take, if_pos (by omega)]; simp
                rw [r4] at this
                rw [hx] at this
                rw [Nat.zero_add] at hx'
                rw [hx'] at this
                cases this
                obtain ⟨y, _, rfl⟩ := List.mem_map.1 (List.mem_of_getElem? hx)
                exact .flat rfl
              refine ⟨_, rfl, ?_⟩
              rw [AS.get_alloc]
              refine (Sim.fresh hR hbel hn (l := ⟨gb, 0, some 1, cap, fun q => nomatch q⟩) hbase hlt ho).mono (Nat.le_refl _) (Nat.le_refl _) ?_
              rintro μ' _ rfl
              exact .slice (.inr ⟨⟨⟨gb, 0, some 1, cap, fun q => nomatch q⟩, by simp [updMu], rfl, by simp⟩, .inr ⟨⟨gb, 0, some 1, cap, fun q => nomatch q⟩, 1, by simp [updMu], rfl, r1, by simp⟩⟩)
end
end Go.VAbs

/-! The abstract machine, part 40: internal/stringslite.Index, strings.Count, by their contracts. -/
namespace Go.VAbs
open Go Go.RowKit
set_option linter.unusedVariables false
noncomputable section
set_option linter.unusedSimpArgs false

def pIndexL (mb : Nat) : List Value → AS → Option (Value × AS)
  | [.string s, .string o], σ => match maxLenAt σ mb with
    | some _ => cond (Nat.blt s.size 4294967281) (some (.int .i64 (Lib.index s.data.toList o.data.toList), σ)) none
    | none => none
  | _, _ => none
def IndexC (P : Program) (n gM : Nat) : Prop := ∀ (s sub : ByteArray) (m : Int) (w : World), s.size < 4294967281 → w.cell? ⟨gM, 0, none⟩ = some (.int .i64 m) →
  Calls P n #[.string s, .string sub] w fun e w' => e = .returned (.int .i64 (Lib.index s.data.toList sub.data.toList)) ∧ w' = w
theorem index_ok {E : Env} {n gM mb : Nat} (hgl : E.glob gM = some mb) (h : IndexC E.P n gM) : PrimOk E n (pIndexL mb) := by
  constructor
  · intro args σ v σ' e
    unfold pIndexL at e
    split at e
    · split at e
      · rw [cond_eq_ite] at e
        split at e
        · simp only [Option.some.injEq, Prod.mk.injEq] at e; obtain ⟨_, rfl⟩ := e; exact .refl _
        · cases e
      · cases e
    · cases e
  · intro args σ v σ' wf e
    unfold pIndexL at e
    split at e
    · rename_i s o
      split at e
      · rename_i m hm
        rw [cond_eq_ite] at e
        split at e
        · rename_i hc
          simp only [Option.some.injEq, Prod.mk.injEq] at e
          obtain ⟨rfl, rfl⟩ := e
          rw [Nat.blt_eq] at hc
          intro μ w args' hG hR hfree hargs
          obtain ⟨a1, r1, rfl, q1, hargs⟩ := hargs.of_list
          obtain ⟨a2, r2, q2e, q2, hargs⟩ := hargs.of_list
          have h5 := hargs.of_nil
          have e1 := List.toArray_inj q2e
          have e2 : r2 = [] := by simpa using h5
          subst e1 e2
          rw [q1.eq_of_flat rfl, q2.eq_of_flat rfl]
          refine (h s o m w hc (maxLen_cell hgl hG hR hm)).mono ?_
          rintro ex w' ⟨rfl, rfl⟩
          exact ⟨_, rfl, Sim.pure hR _ _ (.flat rfl)⟩
        · cases e
      · cases e
    · cases e
def pCountL (mb : Nat) : List Value → AS → Option (Value × AS)
  | [.string s, .string o], σ => match maxLenAt σ mb with
    | some _ => cond (Nat.blt s.size 4294967281 && Nat.ble 1 o.size) (some (.int .i64 (Lib.countB s o), σ)) none
    | none => none
  | _, _ => none
def CountC (P : Program) (n gM : Nat) : Prop := ∀ (s sub : ByteArray) (m : Int) (w : World), s.size < 4294967281 → w.cell? ⟨gM, 0, none⟩ = some (.int .i64 m) → 1 ≤ sub.size →
  Calls P n #[.string s, .string sub] w fun e w' => e = .returned (.int .i64 (Lib.countB s sub)) ∧ w' = w
theorem count_ok {E : Env} {n gM mb : Nat} (hgl : E.glob gM = some mb) (h : CountC E.P n gM) : PrimOk E n (pCountL mb) := by
  constructor
  · intro args σ v σ' e
    unfold pCountL at e
    split at e
    · split at e
      · rw [cond_eq_ite] at e
        split at e
        · simp only [Option.some.injEq, Prod.mk.injEq] at e; obtain ⟨_, rfl⟩ := e; exact .refl _
        · cases e
      · cases e
    · cases e
  · intro args σ v σ' wf e
    unfold pCountL at e
    split at e
    · rename_i s o
      split at e
      · rename_i m hm
        rw [cond_eq_ite] at e
        split at e
        · rename_i hc
          simp only [Option.some.injEq, Prod.mk.injEq] at e
          obtain ⟨rfl, rfl⟩ := e
          rw [Bool.and_eq_true, Nat.blt_eq, Nat.ble_eq] at hc
          intro μ w args' hG hR hfree hargs
          obtain ⟨a1, r1, rfl, q1, hargs⟩ := hargs.of_list
          obtain ⟨a2, r2, q2e, q2, hargs⟩ := hargs.of_list
          have h5 := hargs.of_nil
          have e1 := List.toArray_inj q2e
          have e2 : r2 = [] := by simpa using h5
          subst e1 e2
          rw [q1.eq_of_flat rfl, q2.eq_of_flat rfl]
          refine (h s o m w hc.1 (maxLen_cell hgl hG hR hm) hc.2).mono ?_
          rintro ex w' ⟨rfl, rfl⟩
          exact ⟨_, rfl, Sim.pure hR _ _ (.flat rfl)⟩
        · cases e
      · cases e
    · cases e
end
end Go.VAbs

/-! The abstract machine, part 29: from the machine's run to the model's call. -/
namespace Go.VAbs
open Go Go.RowKit
set_option linter.unusedVariables false
noncomputable section
set_option linter.unusedSimpArgs false

/-- The heap that a law's call begins with: internal/bytealg.MaxLen's place, whatever stands there. -/
def start (m : Int) : AS := { heap := Tr.n .e (some (.cells [.int .i64 m] true none)) .e, next := 1, ws := [] }
def startMu (gM : Nat) : Mu := fun b => if b = 0 then some ⟨gM, 0, none, 0, fun _ => rfl⟩ else none
def oneGlob (gM : Nat) : Nat → Option Nat := fun g => cond (Nat.beq g gM) (some 0) none

theorem start_get (m : Int) (b : Nat) : (start m).get b = if b = 0 then some (.cells [.int .i64 m] true none) else none := by
  unfold start AS.get
  cases b with
  | zero => rfl
  | succ k =>
    simp only [Tr.get]
    cases Nat.beq (k % 2) 0 <;> simp
theorem laid_rel {gM : Nat} {m : Int} {w : World} (h : w.cell? ⟨gM, 0, none⟩ = some (.int .i64 m)) (hmem : ∃ arr t fr, w.heap[gM]? = some (.cells arr t fr)) : Rel (startMu gM) (start m).get w := by
  obtain ⟨arr, t, fr, ha⟩ := hmem
  have hlt : gM < w.heap.size := (Array.getElem?_eq_some_iff.1 ha).1
  have hcell : arr[0]? = some (.int .i64 m) := by simpa [World.cell?, ha] using h
  refine ⟨?_, ?_, ?_⟩
  · intro b l hb
    unfold startMu at hb
    split at hb
    · cases hb; exact hlt
    · cases hb
  · intro b l o hb ho
    unfold startMu at hb
    split at hb
    · rename_i hb0
      cases hb
      subst hb0
      rw [start_get, if_pos rfl] at ho
      cases ho
      refine ⟨arr, t, fr, ha, ?_, ?_, rfl, Nat.zero_le _, fun q => by cases q⟩
      · have := (Array.getElem?_eq_some_iff.1 hcell).1
        show 0 + 1 ≤ arr.size
        omega
      · intro i v v' h1 h2
        cases i with
        | zero =>
          simp at h1
          subst h1
          have : arr[0]? = some v' := by simpa using h2
          rw [hcell] at this
          cases this
          exact .flat rfl
        | succ i => simp at h1
    · cases hb
  · intro b b' l l' hb hb' hne
    unfold startMu at hb hb'
    split at hb
    · split at hb'
      · omega
      · cases hb'
    · cases hb
theorem start_glob {E : Env} {gM : Nat} (h : E.glob = oneGlob gM) : GlOk E (startMu gM) := by
  intro g b hb
  rw [h] at hb
  unfold oneGlob at hb
  rw [cond_eq_ite] at hb
  split at hb
  · rename_i hg
    cases hb
    have := Nat.eq_of_beq_eq_true hg
    exact ⟨⟨gM, 0, none, 0, fun _ => rfl⟩, by simp [startMu], this.symm, rfl⟩
  · cases hb

/-- A frame in which nothing old is one's own. -/
theorem Fr.toBelow {μ μ' : Mu} {g g' : AH} {w w' : World} (h : Fr μ g w μ' g' w') (hno : ∀ b, ¬ Own g b) : Below w.heap.size w w' :=
  ⟨h.os, h.tape, h.output, h.size, fun c hc => h.keep c hc fun b _ _ _ => hno b⟩
theorem start_own (m : Int) (b : Nat) : ¬ Own (start m).get b := by
  rintro ⟨o, h1, h2⟩
  rw [start_get] at h1
  split at h1
  · cases h1; cases h2
  · cases h1

/-- THE CALL: what the machine says of a law without memory of its own. -/
theorem law_calls {E : Env} (hP : ProgOk E) {gM : Nat} (hg : E.glob = oneGlob gM) {k n : Nat} {args : List Value} {m : Int} {v : Value} (hv : closed v = true) (hargs : ∀ x ∈ args, closed x = true)
    {w : World} (hm : w.cell? ⟨gM, 0, none⟩ = some (.int .i64 m)) (hmem : ∃ arr t fr, w.heap[gM]? = some (.cells arr t fr)) (h : (acall E k n args (start m)).map (·.1) = some v) :
    Calls E.P n args.toArray w fun e w' => e = .returned v ∧ Below w.heap.size w w' := by
  simp only [Option.map_eq_some_iff] at h
  obtain ⟨⟨v0, σ'⟩, h1, rfl⟩ := h
  have hwf : ∀ b, (start m).next ≤ b → (start m).get b = none := by
    intro b hb
    have : 1 ≤ b := hb
    rw [start_get, if_neg (by omega)]
  have hsim := (acall_ok hP k).sim n args _ _ _ hwf h1 (startMu gM) w args.toArray (start_glob hg) (laid_rel hm hmem) (by
    intro b hb _
    have : 1 ≤ b := hb
    unfold startMu
    rw [if_neg (by omega)]) ⟨rfl, fun i a b h1 h2 => by
      rw [h1] at h2; cases h2
      exact VRel.of_closed _ (hargs a (by simpa using List.mem_of_getElem? (by simpa using h1)))⟩
  refine hsim.mono ?_
  rintro e w' ⟨v', rfl, μ', f, r, nn, kk⟩
  rw [kk.eq_of_closed hv]
  exact ⟨rfl, f.toBelow (start_own m)⟩

/-- A CALL WITHOUT ARGUMENTS, REALLY CLOSED: one may take it whole. -/
def pClosed (v : Value) : List Value → AS → Option (Value × AS)
  | [], σ => match maxLenAt σ 0 with
    | some _ => some (v, σ)
    | none => none
  | _ :: _, _ => none
theorem closed_ok {E : Env} (hP : ProgOk E) {gM : Nat} (hg : E.glob = oneGlob gM) {k n : Nat} {v : Value} (hv : closed v = true) (h : ∀ m : Int, (acall E k n [] (start m)).map (·.1) = some v)
    {E' : Env} (hE' : E'.P = E.P) (hg' : E'.glob = E.glob) : PrimOk E' n (pClosed v) := by
  constructor
  · intro args σ v0 σ' e
    unfold pClosed at e
    split at e
    · split at e
      · simp only [Option.some.injEq, Prod.mk.injEq] at e; obtain ⟨_, rfl⟩ := e; exact .refl _
      · cases e
    · cases e
  · intro args σ v0 σ' wf e
    unfold pClosed at e
    split at e
    · split at e
      · rename_i m hm
        simp only [Option.some.injEq, Prod.mk.injEq] at e
        obtain ⟨rfl, rfl⟩ := e
        intro μ w args' hG hR hfree hargs
        have ha := hargs.of_nil
        subst ha
        have hgl : E'.glob gM = some 0 := by rw [hg', hg]; simp [oneGlob]
        have hc := maxLen_cell hgl hG hR hm
        have hmem : ∃ arr t fr, w.heap[gM]? = some (.cells arr t fr) := by
          unfold maxLenAt at hm
          split at hm
          · rename_i m0 ro gr hgg
            obtain ⟨l, h1, h2, h3⟩ := hG gM 0 hgl
            obtain ⟨arr, t, fr, k1, _⟩ := hR.obj 0 l _ h1 hgg
            exact ⟨arr, t, fr, by rw [← h2]; exact k1⟩
          · cases hm
        have := law_calls hP hg (args := []) hv (by simp) hc hmem (h m)
        rw [← hE'] at this
        refine this.mono ?_
        rintro ex w' ⟨rfl, hb⟩
        exact ⟨_, rfl, Sim.below hR hb _ _ (VRel.of_closed _ hv)⟩
      · cases e
    · cases e

/-- The environment of a program, off its own tables. -/
theorem of_ok (P : Program) (glob : Nat → Option Nat) (prim : Nat → Option (List Value → AS → Option (Value × AS))) : EnvOk (Env.of P glob prim) := by
  refine ⟨fun t d h => h, ?_, ?_, ?_, fun n f h => h⟩
  · intro t n h
    simp only [Env.of, Option.map_eq_some_iff] at h
    obtain ⟨i, h1, h2⟩ := h
    exact ⟨i, h1, h2⟩
  · intro t n h
    simp only [Env.of, Option.map_eq_some_iff] at h
    obtain ⟨i, h1, h2⟩ := h
    exact ⟨i, h1, h2⟩
  · intro t z h
    simp only [Env.of, Option.bind_eq_some_iff] at h
    obtain ⟨i, h1, h2⟩ := h
    exact ⟨i, h1, h2⟩

def funcOk (fn : Go.Func) : Bool := !(fn.name == "runtime.NumGoroutine") && (match fn.body with | some c => codeWf c | none => true)
theorem progOk_of {P : Program} {glob : Nat → Option Nat} {prim : Nat → Option (List Value → AS → Option (Value × AS))} (hm : P.follows .mixedOrders = true) (hf : P.funcs.toList.all funcOk = true)
    (hp : ∀ n g, prim n = some g → PrimOk (Env.of P glob prim) n g ∧ ∃ fn, P.funcs[n]? = some fn ∧ fn.body.isNone = false) : ProgOk (Env.of P glob prim) := by
  have key : ∀ (n : Nat) (fn : Func), P.funcs[n]? = some fn → funcOk fn = true := fun n fn h => List.all_eq_true.1 hf fn (by rw [Array.mem_toList_iff]; exact Array.mem_of_getElem? h)
  have nm : ∀ (n : Nat) (fn : Func), P.funcs[n]? = some fn → (fn.name == "runtime.NumGoroutine") = false := by
    intro n fn h
    have := key n fn h
    unfold funcOk at this
    simp only [Bool.and_eq_true, Bool.not_eq_true'] at this
    exact this.1
  refine { toEnvOk := of_ok P glob prim, mixed := hm, name := nm, code := ?_, prim := fun n g h => (hp n g h).1, primFn := ?_ }
  · intro n fn c h hb
    have := key n fn h
    unfold funcOk at this
    rw [hb] at this
    simp only [Bool.and_eq_true] at this
    exact this.2
  · intro n g h
    obtain ⟨fn, h1, h2⟩ := (hp n g h).2
    exact ⟨fn, h1, h2, nm n fn h1⟩
end
end Go.VAbs

/-! The abstract machine, part 31: a run along a path, and the few conditions that are left. -/
namespace Go.VAbs
open Go Go.RowKit
set_option linter.unusedVariables false
noncomputable section
set_option linter.unusedSimpArgs false

def condsOf : Option (Value × AS × OSt) → List (Bool × Bool)
  | some (_, _, q) => q.cs
  | none => []
def valOf : Option (Value × AS × OSt) → Option Value
  | some (v, _, _) => some v
  | none => none
/-- All but those that the mask lets go. -/
def maskAll : List Bool → List (Bool × Bool) → Bool
  | _, [] => true
  | [], p :: r => cond (p.1 == p.2) (maskAll [] r) false
  | true :: m, _ :: r => maskAll m r
  | false :: m, p :: r => cond (p.1 == p.2) (maskAll m r) false
def pickL : List Bool → List (Bool × Bool) → List (Bool × Bool)
  | _, [] => []
  | [], _ => []
  | true :: m, p :: r => p :: pickL m r
  | false :: m, _ :: r => pickL m r
theorem mask_holds : ∀ (m : List Bool) (l : List (Bool × Bool)), maskAll m l = true → (∀ p ∈ pickL m l, p.1 = p.2) → ∀ p ∈ l, p.1 = p.2
  | _, [], _, _ => by simp
  | [], p :: r, h1, h2 => by
    simp only [maskAll, cond_eq_ite] at h1
    split at h1
    · rename_i hp
      intro x hx
      rcases List.mem_cons.1 hx with rfl | hx
      · exact beq_iff_eq.1 hp
      · exact mask_holds [] r h1 (by cases r <;> simp [pickL]) x hx
    · cases h1
  | true :: m, p :: r, h1, h2 => by
    intro x hx
    rcases List.mem_cons.1 hx with rfl | hx
    · exact h2 x (by simp [pickL])
    · exact mask_holds m r h1 (fun y hy => h2 y (by simp [pickL, hy])) x hx
  | false :: m, p :: r, h1, h2 => by
    simp only [maskAll, cond_eq_ite] at h1
    split at h1
    · rename_i hp
      intro x hx
      rcases List.mem_cons.1 hx with rfl | hx
      · exact beq_iff_eq.1 hp
      · exact mask_holds m r h1 (fun y hy => h2 y (by simpa [pickL] using hy)) x hx
    · cases h1
theorem path_ok {call : ACall} {callO : OCall} (hs : OSound call callO) {n : Nat} {args : List Value} {σ : AS} {q : OSt} {v : Value} (m : List Bool) (hv : valOf (callO n args σ q) = some v) (h1 : maskAll m (condsOf (callO n args σ q)) = true)
    (h2 : ∀ p ∈ pickL m (condsOf (callO n args σ q)), p.1 = p.2) : (call n args σ).map (·.1) = some v := by
  have hc := mask_holds m _ h1 h2
  cases hr : callO n args σ q with
  | none => rw [hr] at hv; cases hv
  | some r =>
    obtain ⟨v0, σ', q'⟩ := r
    rw [hr] at hv hc
    simp only [valOf, Option.some.injEq] at hv
    subst hv
    rw [(hs _ _ _ _ _ _ _ hr hc).1]; rfl
def noPO : Nat → Option (List Value → AS → OSt → Option (Value × AS × OSt)) := fun _ => none
theorem symCall_ok (E : Env) (sym : Nat → Bool) (k : Nat) : OSound (acall E k) (acallO E sym noPO k) := acallO_ok (fun n g h => by cases h) k
end
end Go.VAbs

/-! The abstract machine, part 32: the wrap of a law whose row lists variables, the world's shape kept. -/
namespace Go.VAbs
open Go Go.RowKit
set_option linter.unusedVariables false
noncomputable section
variable {H : Type} {enc : TypeId × Value → H}

theorem handed_shaped {a : Assume} {C : Checked} {os : Os} {f : FuncId} {fn : Func} {s : ChangeSpec} {conds : List PathCond} {apart fresh handsOn again : Bool} {X : World → Array Value → Prop}
    (hX : ∀ (w w' : World) (args : Array Value), w.heap = w'.heap → X w args → X w' args)
    (own : ownKnob C.prog.godebug = none) (started : os.Started) (noInit : C.prog.inits.idxOf? f = none) (hfn : C.prog.funcs[f]? = some fn)
    (witness : ∃ (w : World) (tape : Tape) (i : Input), w.os = os ∧ (w.forCall tape i).Shaped C.prog ∧ i.vars = [] ∧ Input.okWide C.prog (w.forCall tape i) .any w.heap.size f i ∧
      ((s.pre enc C.prog fn conds apart (w.forCall tape i).memory i.args ∧ X (w.forCall tape i).memory i.args) ∧ sizedMet enc C.prog fn (OpenSpec.ofChange s) apart (w.forCall tape i).memory i.args) ∧ a.holds C.prog (lone (Frame.enter C.prog f i.args .normal) [] (w.forCall tape i)))
    (contract : ∀ (W : World) (base : Nat) (args : Array Value) (ds gs : List (DataW H)) (before : List MemPlace),
      W.ShapedOpen C.prog →
      (∀ (j : Nat) t v, fn.params[j]? = some t → args[j]? = some v → Value.okWide C.prog W .any base t v) →
      DataW.Whole enc C.prog fn.params.toList s.vars apart W args.toList ds gs before →
      (DataW.weightsEach C.prog (fn.params.toList ++ s.plain.varTypes C.prog) (ds ++ gs)).all (· ≤ reachBytes) = true →
      Calls C.prog f args W fun e W' => ∃ v, e = .returned v ∧ s.post enc C.prog fn apart fresh handsOn again W args v W') :
    ReturnsInHanded a C os f .any (fun w args => (s.pre enc C.prog fn conds apart w args ∧ X w args) ∧ sizedMet enc C.prog fn (OpenSpec.ofChange s) apart w args) (s.post enc C.prog fn apart fresh handsOn again) := by
  refine returnsInHanded_of_calls own started noInit witness ?_
  intro w tape i _ hshape _ hok hpre _
  obtain ⟨_, _, _, g, hg, _, _, _, _, hval⟩ := hok
  obtain rfl : g = fn := Option.some.inj (hg.symm.trans hfn)
  obtain ⟨⟨⟨ds, gs, before, hw, _⟩, _⟩, hz⟩ := hpre
  refine (contract (w.forCall tape i) w.heap.size i.args ds gs before hshape hval (DataW.Whole.of_heap (w' := w.forCall tape i) (by rfl) hw) (hz.weights hw)).mono fun e W' ⟨v, he, hp⟩ => ?_
  subst he
  exact ChangeSpec.post_blind hp

theorem cells_of_cell {w : World} {g : Nat} {v : Value} (h : w.cell? ⟨g, 0, none⟩ = some v) : ∃ arr t fr, w.heap[g]? = some (.cells arr t fr) := by
  unfold World.cell? at h
  cases hb : w.heap[g]? with
  | none => rw [hb] at h; simp at h
  | some o =>
    cases o with
    | cells arr t fr => exact ⟨arr, t, fr, rfl⟩
    | _ => rw [hb] at h; simp at h
end
end Go.VAbs

/-! The abstract machine, part 34: laws with memory among their arguments; arguments that read as they did. -/
namespace Go.VAbs
open Go Go.RowKit
set_option linter.unusedVariables false
noncomputable section

/-- The heap that a law's call begins with: internal/bytealg.MaxLen's place, and rows that nobody writes. -/
def start2 (m : Int) (cs : List (List Value)) : AS := cs.foldl (fun σ c => σ.alloc (.cells c true none)) (start m)
def startMu2 (gM : Nat) (bs : List Nat) : Mu := fun b => match b with
  | 0 => some ⟨gM, 0, none, 0, fun _ => rfl⟩
  | b + 1 => bs[b]?.map fun k => ⟨k, 0, none, 0, fun _ => rfl⟩

theorem foldl_alloc (l : List (List Value)) : ∀ (σ : AS), (l.foldl (fun σ c => σ.alloc (.cells c true none)) σ).next = σ.next + l.length ∧
    ∀ b, (l.foldl (fun σ c => σ.alloc (.cells c true none)) σ).get b = if σ.next ≤ b ∧ b < σ.next + l.length then l[b - σ.next]?.map (fun c => .cells c true none) else σ.get b := by
  induction l with
  | nil => intro σ; refine ⟨rfl, fun b => ?_⟩; rw [if_neg (by simp)]; rfl
  | cons c l ih =>
    intro σ
    obtain ⟨h1, h2⟩ := ih (σ.alloc (.cells c true none))
    have hn : (σ.alloc (.cells c true none)).next = σ.next + 1 := rfl
    refine ⟨by simp only [List.foldl_cons, h1, hn, List.length_cons]; omega, fun b => ?_⟩
    simp only [List.foldl_cons, h2 b, hn, List.length_cons]
    by_cases q : b = σ.next
    · subst q
      rw [if_neg (by omega), if_pos (by omega), AS.get_alloc]
      unfold upd
      simp
    · by_cases r : σ.next + 1 ≤ b ∧ b < σ.next + 1 + l.length
      · rw [if_pos r, if_pos (by omega)]
        obtain ⟨d, hd⟩ : ∃ d, b - σ.next = d + 1 := ⟨b - σ.next - 1, by omega⟩
        rw [hd, List.getElem?_cons_succ]
        congr 2; omega
      · rw [if_neg r, if_neg (by omega), AS.get_alloc]
        unfold upd; rw [if_neg q]
theorem start2_next (m : Int) (cs : List (List Value)) : (start2 m cs).next = 1 + cs.length := (foldl_alloc cs (start m)).1
theorem start2_get (m : Int) (cs : List (List Value)) (b : Nat) : (start2 m cs).get b = match b with | 0 => some (.cells [.int .i64 m] true none) | b + 1 => cs[b]?.map (fun c => .cells c true none) := by
  have h := (foldl_alloc cs (start m)).2 b
  unfold start2
  rw [h]
  have hn : (start m).next = 1 := rfl
  rw [hn]
  cases b with
  | zero => rw [if_neg (by omega), start_get, if_pos rfl]
  | succ b =>
    by_cases q : b < cs.length
    · rw [if_pos (by omega)]; simp
    · rw [if_neg (by omega), start_get, if_neg (by omega)]
      show none = Option.map (fun c => AObj.cells c true none) cs[b]?
      rw [List.getElem?_eq_none (by omega)]; rfl

/-- A row among the arguments. -/
def RowAt (μ : Mu) (w : World) (b : Nat) (c : List Value) : Prop := ∃ arr t fr, w.heap[b]? = some (.cells arr t fr) ∧ c.length ≤ arr.size ∧ ∀ (i : Nat) (v v' : Value), c[i]? = some v → arr[i]? = some v' → VRel μ v v'

theorem laid_rel2 {gM : Nat} {m : Int} {w : World} {bs : List Nat} {cs : List (List Value)} (h : w.cell? ⟨gM, 0, none⟩ = some (.int .i64 m)) (hmem : ∃ arr t fr, w.heap[gM]? = some (.cells arr t fr)) (hl : bs.length = cs.length)
    (hb : ∀ (i b : Nat) (c : List Value), bs[i]? = some b → cs[i]? = some c → RowAt (startMu2 gM bs) w b c) : Rel (startMu2 gM bs) (start2 m cs).get w := by
  obtain ⟨arr, t, fr, ha⟩ := hmem
  have hlt : gM < w.heap.size := (Array.getElem?_eq_some_iff.1 ha).1
  have hcell : arr[0]? = some (.int .i64 m) := by simpa [World.cell?, ha] using h
  have hno : ∀ b, ¬ Own (start2 m cs).get b := by
    rintro b ⟨o, h1, h2⟩
    rw [start2_get] at h1
    cases b with
    | zero => cases h1; cases h2
    | succ b =>
      simp only [Option.map_eq_some_iff] at h1
      obtain ⟨c, _, rfl⟩ := h1
      cases h2
  refine ⟨?_, ?_, ?_⟩
  · intro b l hbl
    cases b with
    | zero => cases hbl; exact hlt
    | succ b =>
      simp only [startMu2, Option.map_eq_some_iff] at hbl
      obtain ⟨k, hk, rfl⟩ := hbl
      have hlen : b < cs.length := by rw [← hl]; exact (List.getElem?_eq_some_iff.1 hk).1
      obtain ⟨arr, t, fr, h1, _⟩ := hb b k cs[b] hk (List.getElem?_eq_getElem hlen)
      exact (Array.getElem?_eq_some_iff.1 h1).1
  · intro b l o hbl ho
    rw [start2_get] at ho
    cases b with
    | zero =>
      cases hbl; cases ho
      refine ⟨arr, t, fr, ha, ?_, ?_, rfl, Nat.zero_le _, fun q => by cases q⟩
      · have := (Array.getElem?_eq_some_iff.1 hcell).1
        show 0 + 1 ≤ arr.size
        omega
      · intro i v v' h1 h2
        cases i with
        | zero =>
          simp at h1
          subst h1
          have : arr[0]? = some v' := by simpa using h2
          rw [hcell] at this
          cases this
          exact .flat rfl
        | succ i => simp at h1
    | succ b =>
      simp only [startMu2, Option.map_eq_some_iff] at hbl
      obtain ⟨k, hk, rfl⟩ := hbl
      simp only [Option.map_eq_some_iff] at ho
      obtain ⟨c, hc, rfl⟩ := ho
      obtain ⟨arr, t, fr, h1, h2, h3⟩ := hb b k c hk hc
      refine ⟨arr, t, fr, h1, by simpa using h2, ?_, rfl, Nat.zero_le _, fun q => by cases q⟩
      intro i v v' p q
      simp only [Nat.zero_add] at q
      exact h3 i v v' p q
  · intro b b' l l' _ _ _ _ ho
    exact absurd ho (hno b)
theorem start_glob2 {E : Env} {gM : Nat} {bs : List Nat} (h : E.glob = oneGlob gM) : GlOk E (startMu2 gM bs) := by
  intro g b hb
  rw [h] at hb
  unfold oneGlob at hb
  rw [cond_eq_ite] at hb
  split at hb
  · rename_i hg
    cases hb
    have := Nat.eq_of_beq_eq_true hg
    exact ⟨⟨gM, 0, none, 0, fun _ => rfl⟩, rfl, this.symm, rfl⟩
  · cases hb
theorem start2_own (m : Int) (cs : List (List Value)) (b : Nat) : ¬ Own (start2 m cs).get b := by
  rintro ⟨o, h1, h2⟩
  rw [start2_get] at h1
  cases b with
  | zero => cases h1; cases h2
  | succ b =>
    simp only [Option.map_eq_some_iff] at h1
    obtain ⟨c, _, rfl⟩ := h1
    cases h2

/-- THE CALL of a law with rows among its arguments. -/
theorem law_calls2 {E : Env} (hP : ProgOk E) {gM : Nat} (hg : E.glob = oneGlob gM) {k n : Nat} {args : List Value} {args' : Array Value} {m : Int} {v : Value} (hv : closed v = true) {bs : List Nat} {cs : List (List Value)} (hl : bs.length = cs.length)
    {w : World} (hm : w.cell? ⟨gM, 0, none⟩ = some (.int .i64 m)) (hmem : ∃ arr t fr, w.heap[gM]? = some (.cells arr t fr))
    (hb : ∀ (i b : Nat) (c : List Value), bs[i]? = some b → cs[i]? = some c → RowAt (startMu2 gM bs) w b c)
    (hargs : VRels (startMu2 gM bs) args.toArray args') (h : (acall E k n args (start2 m cs)).map (·.1) = some v) :
    Calls E.P n args' w fun e w' => e = .returned v ∧ Below w.heap.size w w' := by
  simp only [Option.map_eq_some_iff] at h
  obtain ⟨⟨v0, σ'⟩, h1, rfl⟩ := h
  have hwf : ∀ b, (start2 m cs).next ≤ b → (start2 m cs).get b = none := by
    intro b hb
    rw [start2_next] at hb
    rw [start2_get]
    cases b with
    | zero => omega
    | succ b => simp only; rw [List.getElem?_eq_none (by omega)]; rfl
  have hsim := (acall_ok hP k).sim n args _ _ _ hwf h1 (startMu2 gM bs) w args' (start_glob2 hg) (laid_rel2 hm hmem hl hb) (by
    intro b hb _
    rw [start2_next] at hb
    cases b with
    | zero => omega
    | succ b => simp only [startMu2]; rw [List.getElem?_eq_none (by omega)]; rfl) hargs
  refine hsim.mono ?_
  rintro e w' ⟨v', rfl, μ', f, r, nn, kk⟩
  rw [kk.eq_of_closed hv]
  exact ⟨rfl, f.toBelow (start2_own m cs)⟩

/-! ### Arguments that read as they did -/
theorem trodAll_below {H : Type} {enc : TypeId × Value → H} {P : Program} (hl : laidOutB P = true) {W W' : World} (hb : Below W.heap.size W W') :
    ∀ {ts : List TypeId} {vs : List Value} {ds : List (DataW H)} {ps : List MemPlace}, (ts.all fun t => P.readableRec t && decide (t < P.types.size)) = true → DataW.TrodAll enc P W 0 (fun _ => true) true ts vs ds ps → (∀ x ∈ ps, x.block < W.heap.size) →
      DataW.TrodAll enc P W' 0 (fun b => decide (b < W.heap.size)) true ts vs ds ps
  | [], [], [], _, _, h, _ => h
  | t :: ts, v :: vs, d :: ds, ps, ht, h, hp => by
    obtain ⟨p, q, h1, h2, e⟩ := h
    simp only [List.all_cons, Bool.and_eq_true, decide_eq_true_eq] at ht
    refine ⟨p, q, Below.trod hl ht.1.1 ht.1.2 h1 hb (fun x hx => hp x (by rw [e]; exact List.mem_append_left _ hx)), trodAll_below hl hb (by simpa using ht.2) h2 (fun x hx => hp x (by rw [e]; exact List.mem_append_right _ hx)), e⟩
  | [], _ :: _, _, _, _, h, _ => by cases h
  | [], [], _ :: _, _, _, h, _ => by cases h
  | _ :: _, [], _, _, _, h, _ => by cases h
  | _ :: _, _ :: _, [], _, _, h, _ => by cases h
section
variable {P : Program} {W : World} {base : Nat}
theorem okWide_struct {t : TypeId} {v : Value} {fs : Array Field} {ts : List TypeId} (hu : P.underlying t = some (.struct fs)) (hct : P.cellTypes P.depth t = some ts) (hsz : P.cellsOf t = ts.length) (h : Value.okWide P W .any base t v) :
    ∃ cs : Array Value, v = .agg cs ∧ cs.size = ts.length ∧ ∀ (i : Nat) (w : Value) (u : TypeId), cs[i]? = some w → ts[i]? = some u → Cell.okWide P W .any base u w := by
  unfold Value.okWide at h
  rw [hu] at h
  obtain ⟨cs, rfl, h1, ts', h2, _, h3⟩ := h
  rw [hct] at h2
  cases h2
  refine ⟨cs, rfl, h1.trans hsz, ?_⟩
  intro i w u hw hu'
  have hi : i < ts.length := (List.getElem?_eq_some_iff.1 hu').1
  obtain ⟨u', h4, h5⟩ := h3 i w hw
  rw [Nat.mod_eq_of_lt hi, hu'] at h4
  cases h4
  exact h5
theorem cell_int {u : TypeId} {k : IntKind} {v : Value} (hu : P.underlying u = some (.int k)) (h : Cell.okWide P W .any base u v) : ∃ n, v = .int k n := by
  unfold Cell.okWide at h
  rw [hu] at h
  cases v <;> simp only [Cell.ok, hu] at h <;> first | (exact h.elim) | skip
  obtain ⟨rfl, _⟩ := h
  exact ⟨_, rfl⟩
theorem cell_string {u : TypeId} {v : Value} (hu : P.underlying u = some .string) (h : Cell.okWide P W .any base u v) : ∃ s, v = .string s := by
  unfold Cell.okWide at h
  rw [hu] at h
  cases v <;> simp only [Cell.ok, hu] at h <;> first | (exact h.elim) | exact ⟨_, rfl⟩
theorem cell_bool {u : TypeId} {v : Value} (hu : P.underlying u = some .bool) (h : Cell.okWide P W .any base u v) : ∃ b, v = .bool b := by
  unfold Cell.okWide at h
  rw [hu] at h
  cases v <;> simp only [Cell.ok, hu] at h <;> first | (exact h.elim) | exact ⟨_, rfl⟩
theorem cell_slice {u e : TypeId} {v : Value} (hu : P.underlying u = some (.slice e)) (h : Cell.okWide P W .any base u v) :
    v = .slice none 0 0 ∨ ∃ b o len cap, v = .slice (some ⟨b, o, none⟩) len cap ∧ len ≤ cap ∧ ∃ row cells, W.shape? b = some (row, cells) := by
  unfold Cell.okWide at h
  rw [hu] at h
  cases v <;> simp only [Cell.ok, hu] at h <;> first | (exact h.elim) | skip
  rename_i a n c
  cases a with
  | none =>
    left
    split at h
    all_goals first
      | exact h.elim
      | assumption
      | (exfalso; simp_all; done)
  | some a =>
    right
    obtain ⟨b, o, s⟩ := a
    obtain ⟨h1, _, _, hs, row, cells, h2, _⟩ := h
    cases hs
    exact ⟨b, o, n, c, rfl, h1, row, cells, h2⟩
end
/-- Rows of cells, one by one. -/
def RelL (μ : Mu) : List Value → List Value → Prop
  | [], [] => True
  | a :: l, b :: m => VRel μ a b ∧ RelL μ l m
  | _, _ => False
theorem RelL.len {μ : Mu} : ∀ {l m : List Value}, RelL μ l m → l.length = m.length
  | [], [], _ => rfl
  | _ :: _, _ :: _, h => by simp only [List.length_cons, RelL.len h.2]
  | [], _ :: _, h => h.elim
  | _ :: _, [], h => h.elim
theorem RelL.at {μ : Mu} : ∀ {l m : List Value}, RelL μ l m → ∀ (i : Nat) (v v' : Value), l[i]? = some v → m[i]? = some v' → VRel μ v v'
  | a :: l, b :: m, h, 0, v, v', h1, h2 => by cases h1; cases h2; exact h.1
  | a :: l, b :: m, h, i + 1, v, v', h1, h2 => RelL.at h.2 i v v' (by simpa using h1) (by simpa using h2)
  | [], [], _, i, v, v', h1, _ => by simp at h1
  | [], _ :: _, h, _, _, _, _, _ => h.elim
  | _ :: _, [], h, _, _, _, _, _ => h.elim
theorem RelL.agg {μ : Mu} {l m : List Value} (h : RelL μ l m) : VRel μ (.agg ⟨l⟩) (.agg ⟨m⟩) := .agg h.len fun i v v' h1 h2 => h.at i v v' (by simpa using h1) (by simpa using h2)
theorem RelL.args {μ : Mu} {l m : List Value} (h : RelL μ l m) : VRels μ l.toArray ⟨m⟩ := ⟨h.len, fun i v v' h1 h2 => h.at i v v' (by simpa using h1) (by simpa using h2)⟩
theorem rel_slice {gM : Nat} {bs : List Nat} {i b o n c : Nat} (h : bs[i]? = some b) : VRel (startMu2 gM bs) (.slice (some ⟨i + 1, o, none⟩) n c) (.slice (some ⟨b, o, none⟩) n c) :=
  .slice (.inr ⟨⟨⟨b, 0, none, 0, fun _ => rfl⟩, by simp [startMu2, h], rfl, by simp⟩, .inl rfl⟩)
theorem rowAt_nil {μ : Mu} {w : World} {b : Nat} {row : TypeId} {cells : Nat} (h : w.shape? b = some (row, cells)) : RowAt μ w b [] := by
  unfold World.shape? at h
  cases hb : w.heap[b]? with
  | none => rw [hb] at h; cases h
  | some o =>
    rw [hb] at h
    cases o <;> first | (cases h; done) | skip
    exact ⟨_, _, _, hb, Nat.zero_le _, fun i v v' q => by simp at q⟩
theorem rowAt_cells {μ : Mu} {w : World} {b : Nat} (h : ∃ arr t fr, w.heap[b]? = some (.cells arr t fr)) : RowAt μ w b [] := by
  obtain ⟨arr, t, fr, hb⟩ := h
  exact ⟨_, _, _, hb, Nat.zero_le _, fun i v v' q => by simp at q⟩
end
end Go.VAbs

/-! The abstract machine, part 38: laws with one slice among their arguments, wherever it lies. -/
namespace Go.VAbs
open Go Go.RowKit
set_option linter.unusedVariables false
noncomputable section

/-- The heap that a law's call begins with: internal/bytealg.MaxLen's place, and a row that nobody writes. -/
def start3 (m : Int) (X : List Value) (g : Nat) : AS := (start m).alloc (.cells X true (some g))
def startMu3 (gM : Nat) (l : Loc) : Mu := fun b => match b with
  | 0 => some ⟨gM, 0, none, 0, fun _ => rfl⟩
  | 1 => some l
  | _ => none
theorem start3_next (m : Int) (X : List Value) (g : Nat) : (start3 m X g).next = 2 := rfl
theorem start3_get (m : Int) (X : List Value) (g : Nat) (b : Nat) : (start3 m X g).get b = match b with | 0 => some (.cells [.int .i64 m] true none) | 1 => some (.cells X true (some g)) | _ => none := by
  unfold start3
  rw [AS.get_alloc]
  have hn : (start m).next = 1 := rfl
  rw [hn]
  unfold upd
  match b with
  | 0 => rw [if_neg (by decide), start_get, if_pos rfl]; rfl
  | 1 => rw [if_pos rfl]; rfl
  | b + 2 => rw [if_neg (by omega), start_get, if_neg (by omega)]; rfl
theorem start3_own (m : Int) (X : List Value) (g : Nat) (b : Nat) : ¬ Own (start3 m X g).get b := by
  rintro ⟨o, h1, h2⟩
  rw [start3_get] at h1
  match b, h1 with
  | 0, h1 => cases h1; cases h2
  | 1, h1 => cases h1; cases h2
  | b + 2, h1 => cases h1
theorem laid_rel3 {gM : Nat} {m : Int} {w : World} {l : Loc} {X : List Value} {g : Nat} (h : w.cell? ⟨gM, 0, none⟩ = some (.int .i64 m)) (hmem : ∃ arr t fr, w.heap[gM]? = some (.cells arr t fr))
    (hlt : l.blk < w.heap.size) (hb : ORel (startMu3 gM l) (.cells X true (some g)) l w.heap[l.blk]?) : Rel (startMu3 gM l) (start3 m X g).get w := by
  obtain ⟨arr, t, fr, ha⟩ := hmem
  have hg : gM < w.heap.size := (Array.getElem?_eq_some_iff.1 ha).1
  have hcell : arr[0]? = some (.int .i64 m) := by simpa [World.cell?, ha] using h
  refine ⟨?_, ?_, ?_⟩
  · intro b l' hbl
    match b, hbl with
    | 0, hbl => cases hbl; exact hg
    | 1, hbl => cases hbl; exact hlt
    | b + 2, hbl => cases hbl
  · intro b l' o hbl ho
    rw [start3_get] at ho
    match b, hbl, ho with
    | 0, hbl, ho =>
      cases hbl; cases ho
      refine ⟨arr, t, fr, ha, ?_, ?_, rfl, Nat.zero_le _, fun q => by cases q⟩
      · have := (Array.getElem?_eq_some_iff.1 hcell).1
        show 0 + 1 ≤ arr.size
        omega
      · intro i v v' h1 h2
        cases i with
        | zero =>
          simp at h1
          subst h1
          have : arr[0]? = some v' := by simpa using h2
          rw [hcell] at this
          cases this
          exact .flat rfl
        | succ i => simp at h1
    | 1, hbl, ho => cases hbl; cases ho; exact hb
    | b + 2, hbl, ho => cases hbl
  · intro b b' l1 l2 _ _ _ _ ho
    exact absurd ho (start3_own m X g b)
theorem start_glob3 {E : Env} {gM : Nat} {l : Loc} (h : E.glob = oneGlob gM) : GlOk E (startMu3 gM l) := by
  intro g b hb
  rw [h] at hb
  unfold oneGlob at hb
  rw [cond_eq_ite] at hb
  split at hb
  · rename_i hg
    cases hb
    have := Nat.eq_of_beq_eq_true hg
    exact ⟨⟨gM, 0, none, 0, fun _ => rfl⟩, rfl, this.symm, rfl⟩
  · cases hb
/-- THE CALL of a law with a slice among its arguments. -/
theorem law_calls3 {E : Env} (hP : ProgOk E) {gM : Nat} (hg : E.glob = oneGlob gM) {k n : Nat} {args : List Value} {args' : Array Value} {m : Int} {v : Value} (hv : closed v = true) {l : Loc} {X : List Value} {g : Nat}
    {w : World} (hm : w.cell? ⟨gM, 0, none⟩ = some (.int .i64 m)) (hmem : ∃ arr t fr, w.heap[gM]? = some (.cells arr t fr))
    (hlt : l.blk < w.heap.size) (hb : ORel (startMu3 gM l) (.cells X true (some g)) l w.heap[l.blk]?)
    (hargs : VRels (startMu3 gM l) args.toArray args') (h : (acall E k n args (start3 m X g)).map (·.1) = some v) :
    Calls E.P n args' w fun e w' => e = .returned v ∧ Below w.heap.size w w' := by
  simp only [Option.map_eq_some_iff] at h
  obtain ⟨⟨v0, σ'⟩, h1, rfl⟩ := h
  have hwf : ∀ b, (start3 m X g).next ≤ b → (start3 m X g).get b = none := by
    intro b hb
    rw [start3_next] at hb
    rw [start3_get]
    match b, hb with
    | b + 2, _ => rfl
  have hsim := (acall_ok hP k).sim n args _ _ _ hwf h1 (startMu3 gM l) w args' (start_glob3 hg) (laid_rel3 hm hmem hlt hb) (by
    intro b hb _
    rw [start3_next] at hb
    match b, hb with
    | b + 2, _ => rfl) hargs
  refine hsim.mono ?_
  rintro e w' ⟨v', rfl, μ', f, r, nn, kk⟩
  rw [kk.eq_of_closed hv]
  exact ⟨rfl, f.toBelow (start3_own m X g)⟩
end
end Go.VAbs

/-! The abstract machine, part 41: the same, with a heap that says of itself what it holds. -/
namespace Go.VAbs
open Go Go.RowKit
set_option linter.unusedVariables false
noncomputable section

/-- As start3, laid as a function. -/
def start4 (m : Int) (X : List Value) (g : Nat) : AS := ⟨.b (Tr.upd1 (Tr.upd1 (fun _ => none) 0 (.cells [.int .i64 m] true none)) 1 (.cells X true (some g))), 2, []⟩
theorem start4_get (m : Int) (X : List Value) (g : Nat) (b : Nat) : (start4 m X g).get b = (start3 m X g).get b := by
  rw [start3_get]
  show Tr.upd1 (Tr.upd1 (fun _ => none) 0 (AObj.cells [.int .i64 m] true none)) 1 (AObj.cells X true (some g)) b = _
  rw [Tr.upd1_get, Tr.upd1_get]
  match b with
  | 0 => rfl
  | 1 => rfl
  | b + 2 => rw [if_neg (by omega), if_neg (by omega)]; rfl
theorem start4_fun (m : Int) (X : List Value) (g : Nat) : (start4 m X g).get = (start3 m X g).get := funext (start4_get m X g)
theorem law_calls4 {E : Env} (hP : ProgOk E) {gM : Nat} (hg : E.glob = oneGlob gM) {k n : Nat} {args : List Value} {args' : Array Value} {m : Int} {v : Value} (hv : closed v = true) {l : Loc} {X : List Value} {g : Nat}
    {w : World} (hm : w.cell? ⟨gM, 0, none⟩ = some (.int .i64 m)) (hmem : ∃ arr t fr, w.heap[gM]? = some (.cells arr t fr))
    (hlt : l.blk < w.heap.size) (hb : ORel (startMu3 gM l) (.cells X true (some g)) l w.heap[l.blk]?)
    (hargs : VRels (startMu3 gM l) args.toArray args') (h : (acall E k n args (start4 m X g)).map (·.1) = some v) :
    Calls E.P n args' w fun e w' => e = .returned v ∧ Below w.heap.size w w' := by
  simp only [Option.map_eq_some_iff] at h
  obtain ⟨⟨v0, σ'⟩, h1, rfl⟩ := h
  have hwf : ∀ b, (start4 m X g).next ≤ b → (start4 m X g).get b = none := by
    intro b hb
    have hb' : 2 ≤ b := hb
    rw [start4_get, start3_get]
    match b, hb' with
    | b + 2, _ => rfl
  have hrel : Rel (startMu3 gM l) (start4 m X g).get w := by rw [start4_fun]; exact laid_rel3 hm hmem hlt hb
  have hsim := (acall_ok hP k).sim n args _ _ _ hwf h1 (startMu3 gM l) w args' (start_glob3 hg) hrel (by
    intro b hb _
    have hb' : 2 ≤ b := hb
    match b, hb' with
    | b + 2, _ => rfl) hargs
  refine hsim.mono ?_
  rintro e w' ⟨v', rfl, μ', f, r, nn, kk⟩
  rw [kk.eq_of_closed hv]
  exact ⟨rfl, f.toBelow (by rw [start4_fun]; exact start3_own m X g)⟩
end
end Go.VAbs
