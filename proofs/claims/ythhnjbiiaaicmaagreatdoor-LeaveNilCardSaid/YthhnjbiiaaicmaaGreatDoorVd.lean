/- Runs along one path, library functions by their contracts, and the frame of a law's proof. -/
import Derived.Test.YthhnjbiiaaicmaaGreatDoorVc
import Derived.Below
import Derived.Lib.Replace
import Derived.Lib.Join
import Derived.Maps.Own
import Derived.Sort.KeysCollected
import Derived.CallsIn
import Derived.Laws.Strings
/-! The abstract machine, part 26: runs along one path. Where a condition may not be known, the answer is given ahead, and the condition is noted. -/
namespace Go.VAbs
open Go
set_option linter.unusedVariables false
noncomputable section
set_option linter.unusedSimpArgs false

/-- Answers to come, and what has been noted. -/
structure OSt where
  orc : List Bool
  cs : List (Bool × Bool)
def OSt.holds (q : OSt) : Prop := ∀ p ∈ q.cs, p.1 = p.2
def ask (b : Bool) (q : OSt) : Option (Bool × OSt) := match q.orc with
  | [] => none
  | x :: r => some (x, ⟨r, (b, x) :: q.cs⟩)
def need (b : Bool) (q : OSt) : OSt := ⟨q.orc, (b, true) :: q.cs⟩
theorem ask_holds {b x : Bool} {q q' : OSt} (h : ask b q = some (x, q')) (hh : q'.holds) : b = x ∧ q.holds := by
  unfold ask at h
  split at h
  · cases h
  · simp only [Option.some.injEq, Prod.mk.injEq] at h
    obtain ⟨rfl, rfl⟩ := h
    exact ⟨hh (_, _) (by simp), fun p hp => hh p (by simp [hp])⟩
theorem need_holds {b : Bool} {q : OSt} (hh : (need b q).holds) : b = true ∧ q.holds := ⟨hh (_, _) (by simp [need]), fun p hp => hh p (by simp [need, hp])⟩

abbrev OCall := Nat → List Value → AS → OSt → Option (Value × AS × OSt)

def oslice (s : ByteArray) (lo hi : Option Value) : Option (Bool × Value) :=
  match hi, lo with
  | none, none => some (true, .string (s.extract 0 s.size))
  | none, some (.int _ l) => some (decide (0 ≤ l) && decide (l ≤ (s.size : Int)), .string (s.extract l.toNat s.size))
  | some (.int _ h), none => some (decide (0 ≤ h) && decide (h ≤ (s.size : Int)), .string (s.extract 0 h.toNat))
  | some (.int _ h), some (.int _ l) => some ((decide (0 ≤ h) && decide (h ≤ (s.size : Int))) && (decide (0 ≤ l) && decide (l ≤ (h.toNat : Int))), .string (s.extract l.toNat h.toNat))
  | _, _ => none
theorem oslice_eq {s : ByteArray} {lo hi : Option Value} {v : Value} (h : oslice s lo hi = some (true, v)) : (abounds s.size s.size lo hi none).map (fun r => Value.string (s.extract r.1 r.2.1)) = some v := by
  unfold oslice at h
  split at h
  · simp only [Option.some.injEq, Prod.mk.injEq, true_and] at h; subst h; rfl
  · simp only [Option.some.injEq, Prod.mk.injEq] at h
    obtain ⟨h1, rfl⟩ := h
    delta abounds; simp only [abound, h1, cond_true, Option.map_some]
  · simp only [Option.some.injEq, Prod.mk.injEq] at h
    obtain ⟨h1, rfl⟩ := h
    delta abounds; simp only [abound, h1, cond_true, Option.map_some]
  · simp only [Option.some.injEq, Prod.mk.injEq, Bool.and_eq_true (decide _ && decide _)] at h
    obtain ⟨⟨h1, h2⟩, rfl⟩ := h
    delta abounds; simp only [abound, h1, h2, cond_true, Option.map_some]
  · cases h

def noCall : ACall := fun _ _ _ => none

/-- Operations that may lean on what is not known. -/
def aoperS (E : Env) (T : ATmps) (o : Oper) (σ : AS) (q : OSt) : Option (Option (Value × AS × Foot × OSt)) :=
  match o.op with
  | .next it true => match ev E T it with
    | some (.pointer (some ⟨b, 0, none⟩)) => match σ.get b with
      | some (.iter s p) => match ask (Nat.blt p s.size) q with
        | some (true, q') => some (some (.tuple #[.bool true, goInt p, .int .i32 (Utf8.decode s p).1], σ.put b (.iter s (p + (Utf8.decode s p).2)), .all true, q'))
        | some (false, q') => some (some (.tuple #[.bool false], σ, .all false, q'))
        | none => some none
      | _ => none
    | _ => none
  | .pick c a b => match ev E T c with
    | some (.bool x) => match ask x q with
      | some (true, q') => match ev E T a with
        | some v => some (some (v, σ, .pure, q'))
        | none => some none
      | some (false, q') => match ev E T b with
        | some v => some (some (v, σ, .pure, q'))
        | none => some none
      | none => some none
    | _ => none
  | .binOp .add _ x y _ => match ev E T x, ev E T y with
    | some (.string a), some (.string b) => some (some (.string (a ++ b), σ, .pure, need (decide (((a.size + b.size : Nat) : Int) ≤ IntKind.i64.max)) q))
    | _, _ => none
  | .index t x i => match E.und t, ev E T x, ev E T i with
    | some .string, some (.string s), some (.int _ z) => some (some (.int .u8 (s.data.getD z.toNat 0).toNat, σ, .pure, need (decide (0 ≤ z) && decide (z.toNat < s.data.size)) q))
    | _, _, _ => none
  | .slice t x lo hi none => match E.und t, ev E T x, evOpt E T lo, evOpt E T hi with
    | some .string, some (.string s), some lo, some hi => match oslice s lo hi with
      | some (b, v) => some (some (v, σ, .pure, need b q))
      | none => some none
    | _, _, _, _ => none
  | _ => none

def aoperO (E : Env) (call : OCall) (T : ATmps) (o : Oper) (σ : AS) (q : OSt) : Option (Value × AS × Foot × OSt) :=
  match acallee E T o.op with
  | some (n, args) =>
    match call n args { σ with low := σ.next } q with
    | some (v, σ', q') => some (v, { σ' with low := min σ.low σ'.low }, .all (Nat.blt σ'.low σ.next), q')
    | none => none
  | none => match aoperS E T o σ q with
    | some r => r
    | none => (aoper E noCall T o σ).map fun r => (r.1, r.2.1, r.2.2, q)

def awantedO (ops : Array Oper) (T : ATmps) (o : Oper) (q : OSt) : Option (Bool × OSt) :=
  match o.guard with
  | none => some (true, q)
  | some (j, want) => match (ops[j]?).bind (·.dst) with
    | some t => match T.get t with
      | .bool b => match ask b q with
        | some (x, q') => some (x == want, q')
        | none => none
      | _ => some (false, q)
    | none => some (false, q)

def aopsO (E : Env) (call : OCall) (ops : Array Oper) : List Oper → ATmps → AS → OSt → Option (ATmps × AS × List Foot × OSt)
  | [], T, σ, q => some (T, σ, [], q)
  | o :: r, T, σ, q =>
    match awantedO ops T o q with
    | some (true, q) => match aoperO E call T o σ q with
      | some (v, σ', f, q) => match T.put o.dst v with
        | some T' => match aopsO E call ops r T' σ' q with
          | some (T2, σ2, fs, q) => some (T2, σ2, f :: fs, q)
          | none => none
        | none => none
      | none => none
    | some (false, q) => match T.put o.dst undef with
      | some T' => match aopsO E call ops r T' σ q with
        | some (T2, σ2, fs, q) => some (T2, σ2, .pure :: fs, q)
        | none => none
      | none => none
    | none => none

def aloopO (run : ATmps → AS → OSt → Option (AExit × ATmps × AS × OSt)) : Nat → ATmps → AS → OSt → Option (AExit × ATmps × AS × OSt)
  | 0, _, _, _ => none
  | k + 1, T, σ, q => match run T σ q with
    | some (.normal, T', σ', q') => aloopO run k T' σ' q'
    | some (e, T', σ', q') => some (e, T', σ', q')
    | none => none

def acodeO (E : Env) (call : OCall) (k : Nat) : Code → ATmps → AS → OSt → Option (AExit × ATmps × AS × OSt)
  | .skip, T, σ, q => some (.normal, T, σ, q)
  | .label _, T, σ, q => some (.normal, T, σ, q)
  | .region _ ops false, T, σ, q => match aopsO E call ops ops.toList T σ q with
    | some (T', σ', _, q') => some (.normal, T', σ', q')
    | none => none
  | .region _ ops true, T, σ, q => match aopsO E call ops ops.toList T σ q with
    | some (T', σ', fs, q') => cond (noClash fs (pairsOf ops)) (some (.normal, T', σ', q')) none
    | none => none
  | .seq a b, T, σ, q => match acodeO E call k a T σ q with
    | some (.normal, T', σ', q') => acodeO E call k b T' σ' q'
    | r => r
  | .cond c a b, T, σ, q => match ev E T c with
    | some (.bool x) => match ask x q with
      | some (true, q') => acodeO E call k a T σ q'
      | some (false, q') => acodeO E call k b T σ q'
      | none => none
    | _ => none
  | .block id b, T, σ, q => match acodeO E call k b T σ q with
    | some (.exit id', T', σ', q') => cond (Nat.beq id' id) (some (.normal, T', σ', q')) (some (.exit id', T', σ', q'))
    | r => r
  | .loop b, T, σ, q => aloopO (acodeO E call k b) k T σ q
  | .exit id, T, σ, q => some (.exit id, T, σ, q)
  | .ret, T, σ, q => some (.ret, T, σ, q)
  | _, _, _, _ => none

def afuncO (E : Env) (call : OCall) (k : Nat) (fn : Func) (args : List Value) (σ : AS) (q : OSt) : Option (Value × AS × OSt) :=
  match fn.body with
  | none => none
  | some c => match acodeO E call k c { tr := startTr args 0 .e, size := args.length + (fn.ntmps - args.length) } σ q with
    | some (.normal, T, σ', q') | some (.ret, T, σ', q') => (ares E T σ' fn.results.toList).map fun l => (resValue l, σ', q')
    | _ => none
/-- sym: functions that are run along a path; pO: library functions, along a path. -/
def acallO (E : Env) (sym : Nat → Bool) (pO : Nat → Option (List Value → AS → OSt → Option (Value × AS × OSt))) : Nat → OCall
  | 0 => fun _ _ _ _ => none
  | k + 1 => fun n args σ q => match pO n with
    | some g => g args σ q
    | none => match sym n, E.prim n, E.fn n with
      | true, none, some fn => afuncO E (acallO E sym pO k) (k + 1) fn args σ q
      | _, _, _ => (acall E (k + 1) n args σ).map fun r => (r.1, r.2, q)

/-! ### What is noted holds: then it is the machine's run -/
def OSound (call : ACall) (callO : OCall) : Prop := ∀ n args σ q v σ' q', callO n args σ q = some (v, σ', q') → q'.holds → call n args σ = some (v, σ') ∧ q.holds

section
variable {E : Env} {call : ACall} {callO : OCall} {T T' : ATmps} {σ σ' : AS} {q q' : OSt}

theorem aoper_noCall {o : Oper} (h : acallee E T o.op = none) : aoper E noCall T o σ = aoper E call T o σ := by
  unfold aoper; rw [h]

theorem aoperS_ok {o : Oper} (hn : acallee E T o.op = none) {v : Value} {f : Foot} (e : aoperS E T o σ q = some (some (v, σ', f, q'))) (hh : q'.holds) : aoper E call T o σ = some (v, σ', f) ∧ q.holds := by
  unfold aoperS at e
  unfold aoper
  rw [hn]
  cases ho : o.op with
  | next it str =>
    rw [ho] at e
    cases str with
    | false => simp at e
    | true =>
      simp only at e
      split at e
      · rename_i b hev
        split at e
        · rename_i s p hg
          split at e
          · rename_i q1 hask
            simp only [Option.some.injEq, Prod.mk.injEq] at e
            obtain ⟨rfl, rfl, rfl, rfl⟩ := e
            obtain ⟨h1, h2⟩ := ask_holds hask hh
            refine ⟨?_, h2⟩
            simp only [apure, aalloc, amem, hev, hg, h1, cond_true, Option.map_some, amemFoot]
          · rename_i q1 hask
            simp only [Option.some.injEq, Prod.mk.injEq] at e
            obtain ⟨rfl, rfl, rfl, rfl⟩ := e
            obtain ⟨h1, h2⟩ := ask_holds hask hh
            refine ⟨?_, h2⟩
            simp only [apure, aalloc, amem, hev, hg, h1, cond_false, Option.map_some, amemFoot]
          · cases e
        · cases e
      · cases e
  | pick c x y =>
    rw [ho] at e
    simp only at e
    split at e
    · rename_i b hc
      split at e
      · rename_i q1 hask
        split at e
        · rename_i u hu
          simp only [Option.some.injEq, Prod.mk.injEq] at e
          obtain ⟨rfl, rfl, rfl, rfl⟩ := e
          obtain ⟨rfl, h2⟩ := ask_holds hask hh
          exact ⟨by simp only [apure, hc, hu], h2⟩
        · cases e
      · rename_i q1 hask
        split at e
        · rename_i u hu
          simp only [Option.some.injEq, Prod.mk.injEq] at e
          obtain ⟨rfl, rfl, rfl, rfl⟩ := e
          obtain ⟨rfl, h2⟩ := ask_holds hask hh
          exact ⟨by simp only [apure, hc, hu], h2⟩
        · cases e
      · cases e
    · cases e
  | binOp op t x y yt =>
    rw [ho] at e
    cases op <;> simp only at e <;> first
      | (cases e; done)
      | skip
    split at e
    · rename_i s1 s2 hx hy
      simp only [Option.some.injEq, Prod.mk.injEq] at e
      obtain ⟨rfl, rfl, rfl, rfl⟩ := e
      obtain ⟨h1, h2⟩ := need_holds hh
      have h1 := of_decide_eq_true h1
      refine ⟨?_, h2⟩
      have hb : pureVal E.P (binOp .add t (.string s1) (.string s2)) = some (.string (s1 ++ s2)) := by
        have : binOp .add t (.string s1) (.string s2) = pure (.string (s1 ++ s2)) := by
          show Op.stringOp .add s1 s2 = _
          unfold Op.stringOp
          simp only
          rw [if_neg (by omega)]
        rw [this]; rfl
      simp only [apure, hx, hy, abin, isLit, Bool.and_self, cond_true, hb]
    · cases e
  | index t x i =>
    rw [ho] at e
    simp only at e
    split at e
    · rename_i s k z hu hx hi
      simp only [Option.some.injEq, Prod.mk.injEq] at e
      obtain ⟨rfl, rfl, rfl, rfl⟩ := e
      obtain ⟨h1, h2⟩ := need_holds hh
      simp only [Bool.and_eq_true, decide_eq_true_eq] at h1
      refine ⟨?_, h2⟩
      have : s.data[z.toNat]? = some (s.data.getD z.toNat 0) := by
        rw [Array.getD_eq_getD_getElem?, Array.getElem?_eq_getElem h1.2]; rfl
      simp only [apure, hx, hi, aindex, hu, h1.1, decide_true, cond_true, this, Option.map_some]
    · cases e
  | slice t x lo hi mx =>
    rw [ho] at e
    cases mx with
    | some _ => simp at e
    | none =>
      simp only at e
      split at e
      · rename_i s lo' hi' hu hx hlo hhi
        split at e
        · rename_i b u hos
          simp only [Option.some.injEq, Prod.mk.injEq] at e
          obtain ⟨rfl, rfl, rfl, rfl⟩ := e
          obtain ⟨rfl, h2⟩ := need_holds hh
          refine ⟨?_, h2⟩
          have := oslice_eq hos
          have hm : evOpt E T none = some none := rfl
          simp only [apure, hx, hlo, hhi, hm, aslice, hu, this]
        · cases e
      · cases e
  | _ => rw [ho] at e; simp at e

theorem aoperO_ok (hc : OSound call callO) {o : Oper} {v : Value} {f : Foot} (e : aoperO E callO T o σ q = some (v, σ', f, q')) (hh : q'.holds) : aoper E call T o σ = some (v, σ', f) ∧ q.holds := by
  unfold aoperO at e
  split at e
  · rename_i n args hcal
    split at e
    · rename_i v0 σ1 q1 hcall
      simp only [Option.some.injEq, Prod.mk.injEq] at e
      obtain ⟨rfl, rfl, rfl, rfl⟩ := e
      obtain ⟨h1, h2⟩ := hc _ _ _ _ _ _ _ hcall hh
      refine ⟨?_, h2⟩
      unfold aoper
      rw [hcal]
      simp only [h1]
    · cases e
  · rename_i hcal
    split at e
    · rename_i r hr
      subst e
      exact aoperS_ok hcal hr hh
    · simp only [Option.map_eq_some_iff, Prod.mk.injEq] at e
      obtain ⟨⟨v0, σ1, f1⟩, h1, rfl, rfl, rfl, rfl⟩ := e
      exact ⟨by rw [← aoper_noCall hcal]; exact h1, hh⟩

theorem awantedO_ok {ops : Array Oper} {o : Oper} {b : Bool} (e : awantedO ops T o q = some (b, q')) (hh : q'.holds) : awanted ops T o = some b ∧ q.holds := by
  unfold awantedO at e
  unfold awanted
  cases hg : o.guard with
  | none => rw [hg] at e; simp only [Option.some.injEq, Prod.mk.injEq] at e; obtain ⟨rfl, rfl⟩ := e; exact ⟨rfl, hh⟩
  | some g =>
    obtain ⟨j, want⟩ := g
    rw [hg] at e
    simp only at e ⊢
    cases hd : (ops[j]?).bind (·.dst) with
    | none => rw [hd] at e; simp only [Option.some.injEq, Prod.mk.injEq] at e; obtain ⟨rfl, rfl⟩ := e; exact ⟨rfl, hh⟩
    | some t =>
      rw [hd] at e
      simp only at e ⊢
      cases hv : T.get t with
      | bool x =>
        rw [hv] at e
        simp only at e ⊢
        split at e
        · rename_i hask
          simp only [Option.some.injEq, Prod.mk.injEq] at e
          obtain ⟨rfl, rfl⟩ := e
          obtain ⟨rfl, h2⟩ := ask_holds hask hh
          exact ⟨rfl, h2⟩
        · cases e
      | _ => rw [hv] at e; simp only [Option.some.injEq, Prod.mk.injEq] at e; obtain ⟨rfl, rfl⟩ := e; exact ⟨rfl, hh⟩

theorem aopsO_ok (hc : OSound call callO) {ops : Array Oper} : ∀ (r : List Oper) (T : ATmps) (σ : AS) (q : OSt) (T' : ATmps) (σ' : AS) (fs : List Foot) (q' : OSt),
    aopsO E callO ops r T σ q = some (T', σ', fs, q') → q'.holds → aops E call ops r T σ = some (T', σ', fs) ∧ q.holds
  | [], T, σ, q, T', σ', fs, q', e, hh => by
    simp only [aopsO, Option.some.injEq, Prod.mk.injEq] at e
    obtain ⟨rfl, rfl, rfl, rfl⟩ := e
    exact ⟨rfl, hh⟩
  | o :: r, T, σ, q, T', σ', fs, q', e, hh => by
    simp only [aopsO] at e
    split at e
    · rename_i q1 hw
      split at e
      · rename_i v σ1 f q2 hop
        split at e
        · rename_i T1 hput
          split at e
          · rename_i T2 σ2 fs2 q3 hrest
            simp only [Option.some.injEq, Prod.mk.injEq] at e
            obtain ⟨rfl, rfl, rfl, rfl⟩ := e
            obtain ⟨h1, h2⟩ := aopsO_ok hc r _ _ _ _ _ _ _ hrest hh
            obtain ⟨h3, h4⟩ := aoperO_ok hc hop h2
            obtain ⟨h5, h6⟩ := awantedO_ok hw h4
            exact ⟨by simp only [aops, h5, h3, hput, h1], h6⟩
          · cases e
        · cases e
      · cases e
    · rename_i q1 hw
      split at e
      · rename_i T1 hput
        split at e
        · rename_i T2 σ2 fs2 q3 hrest
          simp only [Option.some.injEq, Prod.mk.injEq] at e
          obtain ⟨rfl, rfl, rfl, rfl⟩ := e
          obtain ⟨h1, h2⟩ := aopsO_ok hc r _ _ _ _ _ _ _ hrest hh
          obtain ⟨h5, h6⟩ := awantedO_ok hw h2
          exact ⟨by simp only [aops, h5, hput, h1], h6⟩
        · cases e
      · cases e
    · cases e

theorem aloopO_ok {run : ATmps → AS → Option (AExit × ATmps × AS)} {runO : ATmps → AS → OSt → Option (AExit × ATmps × AS × OSt)}
    (hr : ∀ T σ q e T' σ' q', runO T σ q = some (e, T', σ', q') → q'.holds → run T σ = some (e, T', σ') ∧ q.holds) : ∀ (k : Nat) (T : ATmps) (σ : AS) (q : OSt) (e : AExit) (T' : ATmps) (σ' : AS) (q' : OSt),
    aloopO runO k T σ q = some (e, T', σ', q') → q'.holds → aloop run k T σ = some (e, T', σ') ∧ q.holds
  | 0, _, _, _, _, _, _, _, h, _ => by simp [aloopO] at h
  | k + 1, T, σ, q, e, T', σ', q', h, hh => by
    simp only [aloopO] at h
    split at h
    · rename_i T1 σ1 q1 h1
      obtain ⟨h2, h3⟩ := aloopO_ok hr k _ _ _ _ _ _ _ h hh
      obtain ⟨h4, h5⟩ := hr _ _ _ _ _ _ _ h1 h3
      exact ⟨by simp only [aloop, h4, h2], h5⟩
    · rename_i e1 T1 σ1 q1 hne h1
      simp only [Option.some.injEq, Prod.mk.injEq] at h
      obtain ⟨rfl, rfl, rfl, rfl⟩ := h
      obtain ⟨h4, h5⟩ := hr _ _ _ _ _ _ _ h1 hh
      refine ⟨?_, h5⟩
      simp only [aloop, h4]
    · cases h

theorem acodeO_ok (hc : OSound call callO) (k : Nat) : ∀ (c : Code) (T : ATmps) (σ : AS) (q : OSt) (e : AExit) (T' : ATmps) (σ' : AS) (q' : OSt),
    acodeO E callO k c T σ q = some (e, T', σ', q') → q'.holds → acode E call k c T σ = some (e, T', σ') ∧ q.holds := by
  intro c
  induction c with
  | skip => intro T σ q e T' σ' q' h hh; simp only [acodeO, Option.some.injEq, Prod.mk.injEq] at h; obtain ⟨rfl, rfl, rfl, rfl⟩ := h; exact ⟨rfl, hh⟩
  | label l => intro T σ q e T' σ' q' h hh; simp only [acodeO, Option.some.injEq, Prod.mk.injEq] at h; obtain ⟨rfl, rfl, rfl, rfl⟩ := h; exact ⟨rfl, hh⟩
  | exit l => intro T σ q e T' σ' q' h hh; simp only [acodeO, Option.some.injEq, Prod.mk.injEq] at h; obtain ⟨rfl, rfl, rfl, rfl⟩ := h; exact ⟨rfl, hh⟩
  | ret => intro T σ q e T' σ' q' h hh; simp only [acodeO, Option.some.injEq, Prod.mk.injEq] at h; obtain ⟨rfl, rfl, rfl, rfl⟩ := h; exact ⟨rfl, hh⟩
  | region id ops draws =>
    intro T σ q e T' σ' q' h hh
    cases draws with
    | false =>
      simp only [acodeO] at h
      split at h
      · rename_i T1 σ1 fs q1 h1
        simp only [Option.some.injEq, Prod.mk.injEq] at h
        obtain ⟨rfl, rfl, rfl, rfl⟩ := h
        obtain ⟨h2, h3⟩ := aopsO_ok hc _ _ _ _ _ _ _ _ h1 hh
        exact ⟨by simp only [acode, h2], h3⟩
      · cases h
    | true =>
      simp only [acodeO] at h
      split at h
      · rename_i T1 σ1 fs q1 h1
        rw [cond_eq_ite] at h
        split at h
        · rename_i hcl
          simp only [Option.some.injEq, Prod.mk.injEq] at h
          obtain ⟨rfl, rfl, rfl, rfl⟩ := h
          obtain ⟨h2, h3⟩ := aopsO_ok hc _ _ _ _ _ _ _ _ h1 hh
          exact ⟨by simp only [acode, h2, hcl, cond_true], h3⟩
        · cases h
      · cases h
  | seq a b iha ihb =>
    intro T σ q e T' σ' q' h hh
    simp only [acodeO] at h
    split at h
    · rename_i T1 σ1 q1 h1
      obtain ⟨h2, h3⟩ := ihb _ _ _ _ _ _ _ h hh
      obtain ⟨h4, h5⟩ := iha _ _ _ _ _ _ _ h1 h3
      exact ⟨by simp only [acode, h4, h2], h5⟩
    · rename_i hne
      obtain ⟨h4, h5⟩ := iha _ _ _ _ _ _ _ h hh
      refine ⟨?_, h5⟩
      simp only [acode, h4]
      cases e with
      | normal => exact (hne _ _ _ h).elim
      | _ => rfl
  | cond c a b iha ihb =>
    intro T σ q e T' σ' q' h hh
    simp only [acodeO] at h
    split at h
    · rename_i x hx
      split at h
      · rename_i q1 hask
        obtain ⟨h2, h3⟩ := iha _ _ _ _ _ _ _ h hh
        obtain ⟨rfl, h4⟩ := ask_holds hask h3
        exact ⟨by simp only [acode, hx, h2], h4⟩
      · rename_i q1 hask
        obtain ⟨h2, h3⟩ := ihb _ _ _ _ _ _ _ h hh
        obtain ⟨rfl, h4⟩ := ask_holds hask h3
        exact ⟨by simp only [acode, hx, h2], h4⟩
      · cases h
    · cases h
  | block id b ih =>
    intro T σ q e T' σ' q' h hh
    simp only [acodeO] at h
    split at h
    · rename_i id' T1 σ1 q1 h1
      rw [cond_eq_ite] at h
      split at h
      · rename_i hid
        simp only [Option.some.injEq, Prod.mk.injEq] at h
        obtain ⟨rfl, rfl, rfl, rfl⟩ := h
        obtain ⟨h2, h3⟩ := ih _ _ _ _ _ _ _ h1 hh
        exact ⟨by simp only [acode, h2, hid, cond_true], h3⟩
      · rename_i hid
        simp only [Option.some.injEq, Prod.mk.injEq] at h
        obtain ⟨rfl, rfl, rfl, rfl⟩ := h
        obtain ⟨h2, h3⟩ := ih _ _ _ _ _ _ _ h1 hh
        have hid' : Nat.beq id' id = false := by cases hb : Nat.beq id' id with | false => rfl | true => exact absurd hb hid
        exact ⟨by simp only [acode, h2, hid', cond_false], h3⟩
    · rename_i hne
      obtain ⟨h2, h3⟩ := ih _ _ _ _ _ _ _ h hh
      refine ⟨?_, h3⟩
      simp only [acode, h2]
      cases e with
      | exit id' => exact (hne _ _ _ _ h).elim
      | _ => rfl
  | loop b ih =>
    intro T σ q e T' σ' q' h hh
    simp only [acodeO] at h
    exact aloopO_ok (fun T σ q e T' σ' q' h hh => ih T σ q e T' σ' q' h hh) k _ _ _ _ _ _ _ h hh
  | _ => intro T σ q e T' σ' q' h hh; simp [acodeO] at h

theorem acallO_ok {sym : Nat → Bool} {pO : Nat → Option (List Value → AS → OSt → Option (Value × AS × OSt))}
    (hp : ∀ n g, pO n = some g → ∃ g', E.prim n = some g' ∧ ∀ args σ q v σ' q', g args σ q = some (v, σ', q') → q'.holds → g' args σ = some (v, σ') ∧ q.holds) :
    ∀ k, OSound (acall E k) (acallO E sym pO k)
  | 0 => by intro n args σ q v σ' q' h; simp [acallO] at h
  | k + 1 => by
    have ih := acallO_ok (sym := sym) hp k
    intro n args σ q v σ' q' h hh
    simp only [acallO] at h
    split at h
    · rename_i g hg
      obtain ⟨g', h1, h2⟩ := hp n g hg
      obtain ⟨h3, h4⟩ := h2 _ _ _ _ _ _ h hh
      exact ⟨by simp only [acall, h1, h3], h4⟩
    · split at h
      · rename_i fn hsym hpr hfn
        unfold afuncO at h
        split at h
        · cases h
        · rename_i c hb
          have fin : ∀ (ex : AExit) (T1 : ATmps) (σ1 : AS) (q1 : OSt), (ex = .normal ∨ ex = .ret) → acodeO E (acallO E sym pO k) (k + 1) c { tr := startTr args 0 .e, size := args.length + (fn.ntmps - args.length) } σ q = some (ex, T1, σ1, q1) →
              (ares E T1 σ1 fn.results.toList).map (fun l => (resValue l, σ1, q1)) = some (v, σ', q') → acall E (k + 1) n args σ = some (v, σ') ∧ q.holds := by
            intro ex T1 σ1 q1 hex h1 h2
            simp only [Option.map_eq_some_iff, Prod.mk.injEq] at h2
            obtain ⟨l, hl, rfl, rfl, rfl⟩ := h2
            obtain ⟨h3, h4⟩ := acodeO_ok ih (k + 1) _ _ _ _ _ _ _ _ h1 hh
            refine ⟨?_, h4⟩
            simp only [acall, hpr, hfn, afunc, hb]
            rcases hex with rfl | rfl
            · simp only [h3, hl, Option.map_some]
            · simp only [h3, hl, Option.map_some]
          split at h
          · rename_i T1 σ1 q1 h1; exact fin _ _ _ _ (.inl rfl) h1 h
          · rename_i T1 σ1 q1 h1; exact fin _ _ _ _ (.inr rfl) h1 h
          · cases h
      · simp only [Option.map_eq_some_iff, Prod.mk.injEq] at h
        obtain ⟨⟨v0, σ1⟩, h1, rfl, rfl, rfl⟩ := h
        exact ⟨h1, hh⟩
end
end
end Go.VAbs

/-! The abstract machine, part 27: functions of Go's library, by their contracts. -/
namespace Go.VAbs
open Go Go.RowKit
set_option linter.unusedVariables false
noncomputable section
set_option linter.unusedSimpArgs false

section
variable {μ : Mu} {g : AH} {w w' : World}

theorem Fr.below (h : Below w.heap.size w w') : Fr μ g w μ g w' :=
  ⟨h.os, h.tape, h.output, h.size, fun c hc _ => h.block c hc, .refl μ, fun b l h1 h2 => (by rw [h1] at h2; cases h2), fun _ _ _ h => h, fun _ _ _ h => h⟩
theorem Rel.below (h : Rel μ g w) (hb : Below w.heap.size w w') : Rel μ g w' := by
  refine ⟨fun b l hl => Nat.lt_of_lt_of_le (h.size b l hl) hb.size, fun b l o hl ho => ?_, h.inj⟩
  rw [hb.block _ (h.size b l hl)]
  exact h.obj b l o hl ho
theorem Sim.below (h : Rel μ g w) (hb : Below w.heap.size w w') (lo hi : Nat) {K : Mu → Prop} (k : K μ) : Sim μ g w lo hi g w' K :=
  ⟨μ, .below hb, h.below hb, fun b h k => absurd h k, k⟩
/-- A new object, made by a call that leaves the old ones alone. -/
theorem Sim.fresh (h : Rel μ g w) (hb : Below w.heap.size w w') {n : Nat} (hn : μ n = none) {o : AObj} {l : Loc} (hl : w.heap.size ≤ l.blk) (hlt : l.blk < w'.heap.size)
    (ho : ORel μ o l w'.heap[l.blk]?) : Sim μ g w n (n + 1) (upd g n o) w' (fun μ' => μ' = updMu μ n l) := by
  have le := updMu_le (l := l) hn
  have hg : ∀ b l', μ b = some l' → upd g n o b = g b := by
    intro b l' hb
    unfold upd
    rw [if_neg (fun e => by rw [e, hn] at hb; cases hb)]
  refine ⟨updMu μ n l, ⟨hb.os, hb.tape, hb.output, hb.size, fun c hc _ => hb.block c hc, le, ?_, ?_, fun b l' hb ⟨o', h1, h2⟩ => ⟨o', by rw [← hg b l' hb]; exact h1, h2⟩⟩, ⟨?_, ?_, ?_⟩, ?_, rfl⟩
  · intro b l' h1 h2
    unfold updMu at h2
    by_cases e : b = n
    · rw [if_pos e] at h2; cases h2; exact .inl (by omega)
    · rw [if_neg e, h1] at h2; cases h2
  · intro b l' hb ⟨o', h1, h2⟩
    exact ⟨o', by rw [← hg b l' hb]; exact h1, h2⟩
  · intro b l' hb'
    unfold updMu at hb'
    by_cases e : b = n
    · rw [if_pos e] at hb'; cases hb'; exact hlt
    · rw [if_neg e] at hb'; exact Nat.lt_of_lt_of_le (h.size b l' hb') hb.size
  · intro b l' o' hb' ho'
    unfold updMu at hb'
    by_cases e : b = n
    · rw [if_pos e] at hb'; cases hb'
      unfold upd at ho'; rw [if_pos e] at ho'; cases ho'
      exact ho.mono le
    · rw [if_neg e] at hb'
      unfold upd at ho'; rw [if_neg e] at ho'
      rw [hb.block _ (h.size b l' hb')]
      exact (h.obj b l' o' hb' ho').mono le
  · intro b b' l1 l2 h1 h2 hne hb' hown hal
    unfold updMu at h1 h2
    by_cases e : b = n
    · rw [if_pos e] at h1; cases h1
      rw [if_neg (fun e' => hne (e.trans e'.symm))] at h2
      have := h.size b' l2 h2
      omega
    · rw [if_neg e] at h1
      by_cases e' : b' = n
      · rw [if_pos e'] at h2; cases h2
        have := h.size b l1 h1
        omega
      · rw [if_neg e'] at h2
        obtain ⟨o1, a1, a2⟩ := hown
        obtain ⟨o2, b1, b2⟩ := hal
        unfold upd at a1 b1
        rw [if_neg e] at a1; rw [if_neg e'] at b1
        exact h.inj b b' l1 l2 h1 h2 hne hb' ⟨o1, a1, a2⟩ ⟨o2, b1, b2⟩
  · intro b h1 h2
    unfold updMu at h2
    by_cases e : b = n
    · subst e; omega
    · rw [if_neg e] at h2; exact absurd h1 h2
end

theorem VRels.of_list {μ : Mu} {v : Value} {r : List Value} {args' : Array Value} (h : VRels μ (v :: r).toArray args') : ∃ v' r', args' = (v' :: r').toArray ∧ VRel μ v v' ∧ VRels μ r.toArray r'.toArray := by
  obtain ⟨l, rfl⟩ : ∃ l : List Value, args' = l.toArray := ⟨args'.toList, by simp⟩
  cases l with
  | nil => have := h.1; simp at this
  | cons v' r' =>
    refine ⟨v', r', rfl, h.2 0 v v' (by simp) (by simp), by have := h.1; simpa using this, fun i a b h1 h2 => h.2 (i + 1) a b (by simpa using h1) (by simpa using h2)⟩
theorem VRels.of_nil {μ : Mu} {args' : Array Value} (h : VRels μ ([] : List Value).toArray args') : args' = #[] := by
  have := h.1
  simp at this
  exact Array.eq_empty_of_size_eq_zero this.symm

/-- What stands in internal/bytealg.MaxLen's place, whatever it is. -/
def maxLenAt (σ : AS) (mb : Nat) : Option Int := match σ.get mb with
  | some (.cells [.int .i64 m] _ _) => some m
  | _ => none
theorem maxLen_cell {E : Env} {μ : Mu} {σ : AS} {w : World} {gM mb : Nat} {m : Int} (hgl : E.glob gM = some mb) (hG : GlOk E μ) (hR : Rel μ σ.get w) (h : maxLenAt σ mb = some m) : w.cell? ⟨gM, 0, none⟩ = some (.int .i64 m) := by
  unfold maxLenAt at h
  split at h
  · rename_i m0 ro gr hg
    cases h
    obtain ⟨l, h1, h2, h3⟩ := hG gM mb hgl
    obtain ⟨arr, t, fr, k1, k2, k3, _⟩ := hR.obj mb l _ h1 hg
    rw [h3] at k2 k3
    have hs : 0 < arr.size := by simp at k2; omega
    have hv := k3 0 (.int .i64 m) arr[0] rfl (by simp [hs])
    have := hv.eq_of_flat rfl
    rw [h2] at k1
    simp [World.cell?, k1, hs, this]
  · cases h

/-! ### strings.Replace -/
def pReplaceL (mb : Nat) : List Value → AS → Option (Value × AS)
  | [.string s, .string o, .string n, .int .i64 k], σ => match maxLenAt σ mb with
    | some _ => cond (Nat.blt s.size 4294967281 && Nat.ble 1 o.size && Nat.ble (s.size + Lib.countB s o * n.size) 140737488355328) (some (.string ⟨(Lib.replace s.data.toList o.data.toList n.data.toList k).toArray⟩, σ)) none
    | none => none
  | _, _ => none
def ReplaceC (P : Program) (n gM : Nat) : Prop := ∀ (s old new : ByteArray) (k m : Int) (w : World), s.size < 4294967281 → w.cell? ⟨gM, 0, none⟩ = some (.int .i64 m) → 1 ≤ old.size → s.size + Lib.countB s old * new.size ≤ 140737488355328 →
  Calls P n #[.string s, .string old, .string new, .int .i64 k] w fun e w' => e = .returned (.string ⟨(Lib.replace s.data.toList old.data.toList new.data.toList k).toArray⟩) ∧ Below w.heap.size w w'
theorem replace_ok {E : Env} {n gM mb : Nat} (hgl : E.glob gM = some mb) (h : ReplaceC E.P n gM) : PrimOk E n (pReplaceL mb) := by
  constructor
  · intro args σ v σ' e
    unfold pReplaceL at e
    split at e
    · split at e
      · rw [cond_eq_ite] at e
        split at e
        · simp only [Option.some.injEq, Prod.mk.injEq] at e; obtain ⟨_, rfl⟩ := e; exact .refl _
        · cases e
      · cases e
    · cases e
  · intro args σ v σ' wf e
    unfold pReplaceL at e
    split at e
    · rename_i s o r k
      split at e
      · rename_i m hm
        rw [cond_eq_ite] at e
        split at e
        · rename_i hc
          simp only [Option.some.injEq, Prod.mk.injEq] at e
          obtain ⟨rfl, rfl⟩ := e
          simp only [Bool.and_eq_true, Nat.blt_eq, Nat.ble_eq] at hc
          intro μ w args' hG hR hfree hargs
          obtain ⟨a1, r1, rfl, q1, hargs⟩ := hargs.of_list
          obtain ⟨a2, r2, q2e, q2, hargs⟩ := hargs.of_list
          obtain ⟨a3, r3, q3e, q3, hargs⟩ := hargs.of_list
          obtain ⟨a4, r4, q4e, q4, hargs⟩ := hargs.of_list
          have h5 := hargs.of_nil
          have e1 := List.toArray_inj q2e
          have e2 := List.toArray_inj q3e
          have e3 := List.toArray_inj q4e
          have e4 : r4 = [] := by simpa using h5
          subst e1 e2 e3 e4
          rw [q1.eq_of_flat rfl, q2.eq_of_flat rfl, q3.eq_of_flat rfl, q4.eq_of_flat rfl]
          refine (h s o r k m w hc.1.1 (maxLen_cell hgl hG hR hm) hc.1.2 hc.2).mono ?_
          rintro ex w' ⟨rfl, hb⟩
          exact ⟨_, rfl, Sim.below hR hb _ _ (.flat rfl)⟩
        · cases e
      · cases e
    · cases e

/-! ### strings.Join -/
def strsL : List Value → Option (List ByteArray)
  | [] => some []
  | .string s :: r => match strsL r with
    | some l => some (s :: l)
    | none => none
  | _ => none
theorem strsL_get : ∀ {l : List Value} {ss : List ByteArray}, strsL l = some ss → l = ss.map Value.string
  | [], ss, h => by simp [strsL] at h; subst h; rfl
  | .string s :: r, ss, h => by
    simp only [strsL] at h
    split at h
    · rename_i l hl
      simp only [Option.some.injEq] at h; subst h
      rw [List.map_cons, ← strsL_get hl]
    · cases h
  | .bool _ :: _, _, h | .int _ _ :: _, _, h | .float _ _ :: _, _, h | .complex _ _ _ :: _, _, h | .pointer _ :: _, _, h | .slice _ _ _ :: _, _, h | .map _ :: _, _, h | .chan _ :: _, _, h
  | .func _ _ _ :: _, _, h | .nilFunc :: _, _, h | .iface _ _ :: _, _, h | .nilIface :: _, _, h | .agg _ :: _, _, h | .tuple _ :: _, _, h => by simp [strsL] at h
def pJoinL : List Value → AS → Option (Value × AS)
  | [.slice none 0 _, .string _], σ => some (.string ⟨#[]⟩, σ)
  | [.slice (some a) n c, .string sep], σ => cond (Nat.ble n c && Nat.ble n 140737488355328 && Nat.blt 0 n) (match σ.read a n with
    | some l => match strsL l with
      | some ss => cond (Nat.ble (Lib.join (ss.map (·.data.toList)) sep.data.toList).length 140737488355328) (some (.string ⟨(Lib.join (ss.map (·.data.toList)) sep.data.toList).toArray⟩, σ)) none
      | none => none
    | none => none) none
  | _, _ => none
structure JoinC (P : Program) (n : Nat) : Prop where
  none : ∀ (a : Option Addr) (c : Nat) (sep : ByteArray) (w : World), Calls P n #[.slice a 0 c, .string sep] w fun e w' => e = .returned (.string ⟨#[]⟩) ∧ w' = w
  some : ∀ (bk o c : Nat) (xs : List ByteArray) (sep : ByteArray) (w : World), (∀ (j : Nat) x, xs[j]? = some x → w.cell? ⟨bk, o + j, Option.none⟩ = some (.string x)) → bk < w.heap.size → xs.length ≤ 140737488355328 → xs.length ≤ c →
    (Lib.join (xs.map (·.data.toList)) sep.data.toList).length ≤ 140737488355328 →
    Calls P n #[.slice (some ⟨bk, o, Option.none⟩) xs.length c, .string sep] w fun e w' => e = .returned (.string ⟨(Lib.join (xs.map (·.data.toList)) sep.data.toList).toArray⟩) ∧ Below w.heap.size w w'
theorem join_ok {E : Env} {n : Nat} (h : JoinC E.P n) : PrimOk E n pJoinL := by
  constructor
  · intro args σ v σ' e
    unfold pJoinL at e
    split at e
    · simp only [Option.some.injEq, Prod.mk.injEq] at e; obtain ⟨_, rfl⟩ := e; exact .refl _
    · simp only [cond_eq_ite] at e
      split at e
      · split at e
        · split at e
          · split at e
            · simp only [Option.some.injEq, Prod.mk.injEq] at e; obtain ⟨_, rfl⟩ := e; exact .refl _
            · cases e
          · cases e
        · cases e
      · cases e
    · cases e
  · intro args σ v σ' wf e
    unfold pJoinL at e
    split at e
    · rename_i c sep
      simp only [Option.some.injEq, Prod.mk.injEq] at e
      obtain ⟨rfl, rfl⟩ := e
      intro μ w args' hG hR hfree hargs
      obtain ⟨a1, r1, rfl, q1, hargs⟩ := hargs.of_list
      obtain ⟨a2, r2, q2e, q2, hargs⟩ := hargs.of_list
      have e1 := List.toArray_inj q2e
      have e2 : r2 = [] := by simpa using hargs.of_nil
      subst e1 e2
      rw [q1.eq_of_flat rfl, q2.eq_of_flat rfl]
      refine (h.none none c sep w).mono ?_
      rintro ex w' ⟨rfl, rfl⟩
      exact ⟨_, rfl, Sim.pure hR _ _ (.flat rfl)⟩
    · rename_i a k c sep
      simp only [cond_eq_ite] at e
      split at e
      · rename_i hc
        simp only [Bool.and_eq_true, Nat.ble_eq, Nat.blt_eq] at hc
        split at e
        · rename_i l hl
          split at e
          · rename_i ss hss
            split at e
            · rename_i hlen
              simp only [Option.some.injEq, Prod.mk.injEq] at e
              obtain ⟨rfl, rfl⟩ := e
              intro μ w args' hG hR hfree hargs
              obtain ⟨a1, r1, rfl, q1, hargs⟩ := hargs.of_list
              obtain ⟨a2, r2, q2e, q2, hargs⟩ := hargs.of_list
              have e1 := List.toArray_inj q2e
              have e2 : r2 = [] := by simpa using hargs.of_nil
              subst e1 e2
              rw [q2.eq_of_flat rfl]
              cases q1 with
              | flat hf => simp [Go.VAbs.flat] at hf
              | @slice _ a' _ _ c' hL =>
                rcases hL with ⟨q, _, _⟩ | ⟨hA, hcap⟩
                · omega
                · obtain ⟨loc, m1, m2, rfl⟩ := hA
                  obtain ⟨hlk, cs, ro, gr, g1, g2⟩ := AS.read_some hl
                  have htk := takeCells_some g2
                  have hlen1 : l.length = k := htk.2.1
                  have hss' := strsL_get hss
                  have hkk : ss.length = k := by rw [← hlen1, hss']; simp
                  have hcc : ss.length ≤ c' := by
                    rcases hcap with q | ⟨_, _, _, _, q, _⟩ <;> omega
                  subst hkk
                  refine (h.some loc.blk (loc.sh + a.off) c' ss sep w ?_ (hR.size _ _ m1) hc.1.2 hcc (Nat.le_of_ble_eq_true hlen)).mono ?_
                  · intro j x hj
                    have hjl : j < ss.length := (List.getElem?_eq_some_iff.1 hj).1
                    have hcj : cs[a.off + j]? = some (.string x) := by
                      rw [← htk.2.2 j hjl, hss', List.getElem?_map, hj]; rfl
                    obtain ⟨v', p1, p2⟩ := hR.cell m1 g1 hcj
                    rw [p2.eq_of_flat rfl] at p1
                    rw [Nat.add_assoc]; exact p1
                  · rintro ex w' ⟨rfl, hb⟩
                    exact ⟨_, rfl, Sim.below hR hb _ _ (.flat rfl)⟩
            · cases e
          · cases e
        · cases e
      · cases e
    · cases e
end
end Go.VAbs

/-! The abstract machine, part 28: the sorted keys of a map. -/
namespace Go.VAbs
open Go Go.RowKit Go.WideElems
open Go.Proofs (encStr)
open Go.WideMaps (keyOf_string_mk)
set_option linter.unusedVariables false
noncomputable section
set_option linter.unusedSimpArgs false

def bltB : List UInt8 → List UInt8 → Bool
  | _, [] => false
  | [], _ :: _ => true
  | a :: x, b :: y => cond (Nat.blt a.toNat b.toNat) true (cond (Nat.blt b.toNat a.toNat) false (bltB x y))
theorem bltB_lt : ∀ {x y : List UInt8}, bltB x y = true → x < y
  | x, [], h => by simp [bltB] at h
  | [], b :: y, _ => by simp
  | a :: x, b :: y, h => by
    simp only [bltB, cond_eq_ite] at h
    rw [List.cons_lt_cons_iff]
    split at h
    · rename_i h1
      exact .inl (UInt8.lt_iff_toNat_lt.2 (Nat.blt_eq.mp h1))
    · rename_i h1
      split at h
      · cases h
      · rename_i h2
        rw [Nat.blt_eq] at h1 h2
        exact .inr ⟨UInt8.toNat_inj.1 (by omega), bltB_lt h⟩

def keysOf : List MapEntry → Option (List (List UInt8))
  | [] => some []
  | e :: r => match e.key with
    | .string s => cond (Nat.ble s.size maxLen) (match keysOf r with | some l => some (s.data.toList :: l) | none => none) none
    | _ => none
def bornOk : Nat → List MapEntry → Nat → Bool
  | lo, [], cl => Nat.ble lo cl
  | lo, e :: r, cl => cond (Nat.ble lo e.born) (bornOk (e.born + 1) r cl) false
def insB (x : List UInt8) : List (List UInt8) → List (List UInt8)
  | [] => [x]
  | y :: r => cond (bltB y x) (y :: insB x r) (x :: y :: r)
def sortB : List (List UInt8) → List (List UInt8)
  | [] => []
  | x :: r => insB x (sortB r)
def risB : List (List UInt8) → Bool
  | [] => true
  | [_] => true
  | x :: y :: r => cond (bltB x y) (risB (y :: r)) false
theorem insB_perm (x : List UInt8) : ∀ l, (insB x l).Perm (x :: l)
  | [] => .refl _
  | y :: r => by
    simp only [insB, cond_eq_ite]
    split
    · exact ((insB_perm x r).cons y).trans (.swap x y r)
    · exact .refl _
theorem sortB_perm : ∀ l, (sortB l).Perm l
  | [] => .refl _
  | x :: r => (insB_perm x _).trans ((sortB_perm r).cons x)
theorem risB_pairwise : ∀ {l : List (List UInt8)}, risB l = true → l.Pairwise (· < ·)
  | [], _ => .nil
  | [x], _ => List.pairwise_singleton _ _
  | x :: y :: r, h => by
    simp only [risB, cond_eq_ite] at h
    split at h
    · rename_i h1
      have ih := risB_pairwise h
      refine List.pairwise_cons.2 ⟨?_, ih⟩
      intro z hz
      rcases List.mem_cons.1 hz with rfl | hz
      · exact bltB_lt h1
      · exact List.lt_trans (bltB_lt h1) ((List.pairwise_cons.1 ih).1 z hz)
    · cases h
theorem keysOf_map : ∀ {es : List MapEntry} {l : List (List UInt8)}, keysOf es = some l → es.map (·.key) = l.map encStr ∧ ∀ e ∈ es, ∃ s : ByteArray, e.key = .string s ∧ s.size ≤ maxLen
  | [], l, h => by simp [keysOf] at h; subst h; exact ⟨rfl, by simp⟩
  | e :: r, l, h => by
    simp only [keysOf] at h
    split at h
    · rename_i s hs
      rw [cond_eq_ite] at h
      split at h
      · rename_i hlen
        split at h
        · rename_i l0 h0
          simp only [Option.some.injEq] at h; subst h
          obtain ⟨i1, i2⟩ := keysOf_map h0
          refine ⟨?_, ?_⟩
          · rw [List.map_cons, List.map_cons, i1, hs]

          · intro x hx
            rcases List.mem_cons.1 hx with rfl | hx
            · exact ⟨s, hs, Nat.le_of_ble_eq_true hlen⟩
            · exact i2 x hx
        · cases h
      · cases h
    · cases h
theorem bornOk_spec : ∀ {es : List MapEntry} {lo cl : Nat}, bornOk lo es cl = true → (∀ e ∈ es, lo ≤ e.born ∧ e.born < cl) ∧ (es.map (·.born)).Nodup
  | [], _, _, _ => ⟨by simp, List.nodup_nil⟩
  | e :: r, lo, cl, h => by
    simp only [bornOk, cond_eq_ite] at h
    split at h
    · rename_i h1
      have h1 := Nat.le_of_ble_eq_true h1
      obtain ⟨i1, i2⟩ := bornOk_spec h
      have top : ∀ {es : List MapEntry} {lo cl : Nat}, bornOk lo es cl = true → lo ≤ cl := by
        intro es
        induction es with
        | nil => intro lo cl h; exact Nat.le_of_ble_eq_true h
        | cons e r ih =>
          intro lo cl h
          simp only [bornOk, cond_eq_ite] at h
          split at h
          · rename_i h2
            have := ih h
            have := Nat.le_of_ble_eq_true h2
            omega
          · cases h
      refine ⟨?_, ?_⟩
      · intro x hx
        rcases List.mem_cons.1 hx with rfl | hx
        · have := top h; omega
        · have := i1 x hx; omega
      · rw [List.map_cons]
        refine List.nodup_cons.2 ⟨?_, i2⟩
        intro hm
        obtain ⟨x, hx, hxe⟩ := List.mem_map.1 hm
        have := (i1 x hx).1
        omega
    · cases h

def pSortedL (it : Nat) : List Value → AS → Option (Value × AS)
  | [.func (.func f) first captured], σ => cond (Nat.beq f it && first.isEmpty) (match captured.toList with
    | [.pointer (some ⟨cb, 0, none⟩)] => match σ.get cb with
      | some (.cells [.map (some b)] _ none) => match σ.get b with
        | some (.map es cl) => match keysOf es with
          | some ks => cond (bornOk 0 es cl && risB (sortB ks) && Nat.ble es.length 8796093022208) (match es with
            | [] => some (.slice none 0 0, σ)
            | _ => some (.slice (some ⟨σ.next, 0, none⟩) es.length es.length, σ.alloc (.cells ((sortB ks).map encStr) false (some 1)))) none
          | none => none
        | _ => none
      | _ => none
    | _ => none) none
  | _, _ => none

def SortedC (P : Program) (c it : Nat) (K : TypeId) : Prop := ∀ (Bm b nn : Nat) (D0 : DataW Unit) (R : Value → Option (DataW Unit × List MemPlace)) (w : World), Bm < w.heap.size → w.cell? ⟨Bm, 0, none⟩ = some (.map (some b)) →
  w.ownsMap P K R b nn D0 → Maps.size D0 ≤ maxLen → Maps.size D0 * 16 ≤ 140737488355328 →
  Calls P c #[.func (.func it) #[] #[.pointer (some ⟨Bm, 0, none⟩)]] w fun e w' => ∃ (v : Value) (ss : List (List UInt8)), e = .returned v ∧ ss.Perm (strKeys D0) ∧
    w'.ownsRow w.heap.size K 1 v ss.length ((ss.mergeSort (fun x y => decide (x ≤ y))).map encStr) ∧ (v = .slice none 0 0 ↔ ss = []) ∧ Below w.heap.size w w'

theorem own_of {P : Program} {K : TypeId} (hK : P.underlying K = some .string) {w : World} {b cl : Nat} {es' : Array MapEntry} (hw : w.heap[b]? = some (.map es' cl)) {ks : List (List UInt8)} (hk : keysOf es'.toList = some ks)
    (hb : bornOk 0 es'.toList cl = true) (hnd : ks.Nodup) (hsz : es'.size ≤ maxLen) :
    ∃ D0 : DataW Unit, w.ownsMap P K (fun _ => some (.lit (.bool true), [])) b es'.size D0 ∧ (strKeys D0).Perm ks ∧ Maps.size D0 = es'.size := by
  obtain ⟨k1, k2⟩ := keysOf_map hk
  obtain ⟨b1, b2⟩ := bornOk_spec hb
  have hrd : ∀ x ∈ es'.toList, ∃ s : ByteArray, x.key = .string s ∧ rd P K (fun _ => some (DataW.lit (H := Unit) (.bool true), ([] : List MemPlace))) x = some (.string s.data.toList, .lit (.bool true)) := by
    intro x hx
    obtain ⟨s, h1, h2⟩ := k2 x hx
    refine ⟨s, h1, ?_⟩
    unfold rd
    rw [h1, keyOf_string_mk hK h2]
    rfl
  have hperm := Go.WideShapes.sorted_perm (es'.toList.map (rg P K (fun _ => some (DataW.lit (H := Unit) (.bool true), ([] : List MemPlace)))))
  refine ⟨_, ⟨es', cl, hw, ⟨hsz, ⟨fun x hx => (b1 x hx).2, b2, ?_⟩, fun x hx => ?_⟩, Nat.le_refl _, rfl⟩, ?_, ?_⟩
  · rw [k1]
    refine List.pairwise_map.2 (hnd.imp ?_)
    intro a b hne e
    exact hne (encStr_inj e)
  · obtain ⟨s, _, h2⟩ := hrd x hx; exact ⟨_, h2⟩
  · show (List.map (fun p : Lit × DataW Unit => strOf p.1) _).Perm ks
    refine (hperm.map _).trans ?_
    have : (es'.toList.map (rg P K (fun _ => some (DataW.lit (H := Unit) (.bool true), ([] : List MemPlace))))).map (fun p => strOf p.1) = ks := by
      have e1 : ks.map encStr = (((es'.toList.map (rg P K (fun _ => some (DataW.lit (H := Unit) (.bool true), ([] : List MemPlace))))).map (fun p => strOf p.1)).map encStr) := by
        rw [← k1, List.map_map, List.map_map]
        refine List.map_congr_left ?_
        intro x hx
        obtain ⟨s, h1, h2⟩ := hrd x hx
        simp only [Function.comp, rg, h2, Option.getD_some, strOf, h1]

      have inj : ∀ (l m : List (List UInt8)), l.map encStr = m.map encStr → l = m := by
        intro l
        induction l with
        | nil => intro m h; cases m with
          | nil => rfl
          | cons _ _ => simp at h
        | cons x l ih => intro m h; cases m with
          | nil => simp at h
          | cons y m =>
            rw [List.map_cons, List.map_cons, List.cons.injEq] at h
            rw [encStr_inj h.1, ih m h.2]
      exact (inj _ _ e1).symm
    rw [this]
  · show List.length _ = _
    rw [hperm.length_eq]; simp

theorem keysOf_rel {μ : Mu} : ∀ {l l' : List MapEntry}, ERels μ l l' → keysOf l' = keysOf l
  | [], [], _ => rfl
  | _ :: _, [], h => by have := h.1; simp at this
  | [], _ :: _, h => by have := h.1; simp at this
  | e :: l, e' :: l', h => by
    obtain ⟨h1, h2⟩ := h.tail
    simp only [keysOf]
    rw [h1.1, keysOf_rel h2]
theorem bornOk_rel {μ : Mu} : ∀ {l l' : List MapEntry} {lo cl : Nat}, ERels μ l l' → bornOk lo l' cl = bornOk lo l cl
  | [], [], _, _, _ => rfl
  | _ :: _, [], _, _, h => by have := h.1; simp at this
  | [], _ :: _, _, _, h => by have := h.1; simp at this
  | e :: l, e' :: l', lo, cl, h => by
    obtain ⟨h1, h2⟩ := h.tail
    simp only [bornOk]
    rw [h1.2.2.1, bornOk_rel h2]

theorem sorted_ok {E : Env} {c it : Nat} {K : TypeId} (hK : E.P.underlying K = some .string) (h : SortedC E.P c it K) : PrimOk E c (pSortedL it) := by
  have inv : ∀ {args : List Value} {σ σ' : AS} {v : Value}, pSortedL it args σ = some (v, σ') → ∃ cb ro b es cl ks, args = [.func (.func it) #[] #[.pointer (some ⟨cb, 0, none⟩)]] ∧ σ.get cb = some (.cells [.map (some b)] ro none) ∧ σ.get b = some (.map es cl) ∧ keysOf es = some ks ∧
      bornOk 0 es cl = true ∧ risB (sortB ks) = true ∧ es.length ≤ 8796093022208 ∧ ((es = [] ∧ v = .slice none 0 0 ∧ σ' = σ) ∨ (es ≠ [] ∧ v = .slice (some ⟨σ.next, 0, none⟩) es.length es.length ∧ σ' = σ.alloc (.cells ((sortB ks).map encStr) false (some 1)))) := by
    intro args σ σ' v e
    unfold pSortedL at e
    simp only [cond_eq_ite] at e
    split at e
    · rename_i f first captured
      split at e
      · rename_i hc
        rw [Bool.and_eq_true] at hc
        have hf := Nat.eq_of_beq_eq_true hc.1
        have hfi : first = #[] := by simpa using hc.2
        subst hf hfi
        split at e
        · rename_i cb hcap
          have hcap' : captured = #[.pointer (some ⟨cb, 0, none⟩)] := by apply Array.toList_inj.1; simpa using hcap
          subst hcap'
          split at e
          · rename_i b ro hr
            split at e
            · rename_i es cl hg
              split at e
              · rename_i ks hks
                split at e
                · rename_i hcc
                  simp only [Bool.and_eq_true, Nat.ble_eq] at hcc
                  split at e
                  · simp only [Option.some.injEq, Prod.mk.injEq] at e
                    obtain ⟨rfl, rfl⟩ := e
                    exact ⟨cb, ro, b, _, cl, ks, rfl, hr, hg, hks, hcc.1.1, hcc.1.2, hcc.2, .inl ⟨rfl, rfl, rfl⟩⟩
                  · rename_i hne
                    simp only [Option.some.injEq, Prod.mk.injEq] at e
                    obtain ⟨rfl, rfl⟩ := e
                    exact ⟨cb, ro, b, _, cl, ks, rfl, hr, hg, hks, hcc.1.1, hcc.1.2, hcc.2, .inr ⟨fun q => hne q, rfl, rfl⟩⟩
                · cases e
              · cases e
            · cases e
          · cases e
        · cases e
      · cases e
    · cases e
  constructor
  · intro args σ v σ' e
    obtain ⟨_, _, _, _, _, _, _, _, _, _, _, _, _, q | q⟩ := inv e
    · rw [q.2.2]; exact .refl _
    · rw [q.2.2]; exact .alloc _ _
  · intro args σ v σ' wf e
    obtain ⟨cb, ro, b, es, cl, ks, rfl, hr, hg, hks, hb, hris, hlen, hres⟩ := inv e
    intro μ w args' hG hR hfree hargs
    obtain ⟨a1, r1, rfl, q1, hargs⟩ := hargs.of_list
    have e2 : r1 = [] := by simpa using hargs.of_nil
    subst e2
    cases q1 with
    | flat hf => simp [Go.VAbs.flat] at hf
    | @func _ _ f' _ c' s1 s2 i1 i2 =>
      have hf' : f' = #[] := Array.eq_empty_of_size_eq_zero (by simpa using s1.symm)
      subst hf'
      have hc1 : c'.size = 1 := by simpa using s2.symm
      obtain ⟨p', hp'⟩ : ∃ p', c' = #[p'] := Array.size_eq_one_iff.1 hc1
      subst hp'
      have hpr := i2 0 (.pointer (some ⟨cb, 0, none⟩)) p' rfl rfl
      cases hpr with
      | flat hf => simp [Go.VAbs.flat] at hf
      | @ptr _ a' hA =>
        obtain ⟨l, m1, m2, rfl⟩ := hA
        have hgr : l.grown = none := by
          obtain ⟨_, _, _, _, _, _, k4, _⟩ := hR.obj cb l _ m1 hr
          exact k4
        have hsh := l.ok hgr
        obtain ⟨u, p1, p2⟩ := hR.cell (o := 0) m1 hr rfl
        cases p2 with
        | flat hf => simp [Go.VAbs.flat] at hf
        | @map _ lb hlb =>
          obtain ⟨_, es', hw', hrel⟩ := hR.map hlb hg
          have hk' : keysOf es'.toList = some ks := by rw [keysOf_rel hrel]; exact hks
          have hb' : bornOk 0 es'.toList cl = true := by rw [bornOk_rel hrel]; exact hb
          have hlen' : es'.size = es.length := by have := hrel.1; simpa using this.symm
          have hpw := risB_pairwise hris
          have hnd : ks.Nodup := (sortB_perm ks).nodup_iff.1 (hpw.imp (fun {x y} h e => by subst e; exact List.lt_irrefl _ h))
          obtain ⟨D0, d1, d2, d3⟩ := own_of hK hw' hk' hb' hnd (by rw [hlen']; unfold maxLen; omega)
          simp only [hsh, Nat.zero_add, Nat.add_zero] at p1 ⊢
          refine (h l.blk lb.blk es'.size D0 _ w (hR.size _ _ m1) p1 d1 (by rw [d3, hlen']; unfold maxLen; omega) (by rw [d3, hlen']; omega)).mono ?_
          rintro ex w' ⟨v', ss, rfl, hperm, hrow, hnil, hbel⟩
          have hssk : ss.Perm ks := hperm.trans d2
          have hsort : ss.mergeSort (fun x y => decide (x ≤ y)) = sortB ks := by
            have tr : ∀ a b c : List UInt8, leB a b = true → leB b c = true → leB a c = true := fun a b c h1 h2 => by simp only [leB, decide_eq_true_eq] at *; exact List.le_trans h1 h2
            have to : ∀ a b : List UInt8, (leB a b || leB b a) = true := fun a b => by simp only [leB, Bool.or_eq_true, decide_eq_true_eq]; exact List.le_total a b
            refine List.Perm.eq_of_pairwise (le := fun a b => leB a b = true) (fun a b _ _ h1 h2 => ?_) (List.pairwise_mergeSort tr to ss) ?_ (((List.mergeSort_perm ss leB).trans hssk).trans (sortB_perm ks).symm)
            · simp only [leB, decide_eq_true_eq] at h1 h2
              exact List.le_antisymm h1 h2
            · exact hpw.imp (fun {x y} h => by simp only [leB, decide_eq_true_eq]; exact List.le_of_lt h)
          rw [hsort] at hrow
          have hkl : ks.length = es.length := by
            have := (keysOf_map hks).1
            have := congrArg List.length this
            simpa using this.symm
          have hsl : ss.length = es.length := by rw [hssk.length_eq, hkl]
          rcases hres with ⟨rfl, rfl, rfl⟩ | ⟨hne, rfl, rfl⟩
          · have : ss = [] := List.eq_nil_of_length_eq_zero (by rw [hsl]; rfl)
            exact ⟨_, rfl, by rw [hnil.2 this]; exact Sim.below hR hbel _ _ (.flat rfl)⟩
          · rcases hrow.2 with ⟨_, hz⟩ | ⟨gb, cap, cur, rfl, hbase, hgb, r1, r2, r3, r4⟩
            · exact absurd (List.eq_nil_of_length_eq_zero (by omega)) hne
            · rw [hsl] at r1 r4 ⊢
              have hn : μ σ.next = none := hfree σ.next (Nat.le_refl _) (by simp [AS.alloc])
              have hlt : gb < w'.heap.size := (Array.getElem?_eq_some_iff.1 hgb).1
              have hcl : ((sortB ks).map encStr).length = es.length := by rw [List.length_map, (sortB_perm ks).length_eq, hkl]
              have ho : ORel μ (.cells ((sortB ks).map encStr) false (some 1)) ⟨gb, 0, some 1, cap, fun q => nomatch q⟩ w'.heap[gb]? := by
                refine ⟨cur, K, (0, 0), hgb, by show 0 + _ ≤ _; rw [hcl]; omega, ?_, rfl, by show cap ≤ _; omega, fun _ => .inl rfl⟩
                intro i x x' hx hx'
                have hi : i < es.length := by rw [← hcl]; exact (List.getElem?_eq_some_iff.1 hx).1
                have : (cur.toList.take (es.length * 1))[i]? = cur[i]? := by
                  rw [List.getElem?_take, if_pos (by omega)]; simp
                rw [r4] at this
                rw [hx] at this
                rw [Nat.zero_add] at hx'
                rw [hx'] at this
                cases this
                obtain ⟨y, _, rfl⟩ := List.mem_map.1 (List.mem_of_getElem? hx)
                exact .flat rfl
              refine ⟨_, rfl, ?_⟩
              rw [AS.get_alloc]
              refine (Sim.fresh hR hbel hn (l := ⟨gb, 0, some 1, cap, fun q => nomatch q⟩) hbase hlt ho).mono (Nat.le_refl _) (Nat.le_refl _) ?_
              rintro μ' _ rfl
              exact .slice (.inr ⟨⟨⟨gb, 0, some 1, cap, fun q => nomatch q⟩, by simp [updMu], rfl, by simp⟩, .inr ⟨⟨gb, 0, some 1, cap, fun q => nomatch q⟩, 1, by simp [updMu], rfl, r1, by simp⟩⟩)
end
end Go.VAbs

/-! The abstract machine, part 29: from the machine's run to the model's call. -/
namespace Go.VAbs
open Go Go.RowKit
set_option linter.unusedVariables false
noncomputable section
set_option linter.unusedSimpArgs false

/-- The heap that a law's call begins with: internal/bytealg.MaxLen's place, whatever stands there. -/
def start (m : Int) : AS := { heap := Tr.n .e (some (.cells [.int .i64 m] true none)) .e, next := 1, low := 1 }
def startMu (gM : Nat) : Mu := fun b => if b = 0 then some ⟨gM, 0, none, 0, fun _ => rfl⟩ else none
def oneGlob (gM : Nat) : Nat → Option Nat := fun g => cond (Nat.beq g gM) (some 0) none

theorem start_get (m : Int) (b : Nat) : (start m).get b = if b = 0 then some (.cells [.int .i64 m] true none) else none := by
  unfold start AS.get
  cases b with
  | zero => rfl
  | succ k =>
    simp only [Tr.get]
    cases Nat.beq (k % 2) 0 <;> simp
theorem laid_rel {gM : Nat} {m : Int} {w : World} (h : w.cell? ⟨gM, 0, none⟩ = some (.int .i64 m)) (hmem : ∃ arr t fr, w.heap[gM]? = some (.cells arr t fr)) : Rel (startMu gM) (start m).get w := by
  obtain ⟨arr, t, fr, ha⟩ := hmem
  have hlt : gM < w.heap.size := (Array.getElem?_eq_some_iff.1 ha).1
  have hcell : arr[0]? = some (.int .i64 m) := by simpa [World.cell?, ha] using h
  refine ⟨?_, ?_, ?_⟩
  · intro b l hb
    unfold startMu at hb
    split at hb
    · cases hb; exact hlt
    · cases hb
  · intro b l o hb ho
    unfold startMu at hb
    split at hb
    · rename_i hb0
      cases hb
      subst hb0
      rw [start_get, if_pos rfl] at ho
      cases ho
      refine ⟨arr, t, fr, ha, ?_, ?_, rfl, Nat.zero_le _, fun q => by cases q⟩
      · have := (Array.getElem?_eq_some_iff.1 hcell).1
        show 0 + 1 ≤ arr.size
        omega
      · intro i v v' h1 h2
        cases i with
        | zero =>
          simp at h1
          subst h1
          have : arr[0]? = some v' := by simpa using h2
          rw [hcell] at this
          cases this
          exact .flat rfl
        | succ i => simp at h1
    · cases hb
  · intro b b' l l' hb hb' hne
    unfold startMu at hb hb'
    split at hb
    · split at hb'
      · omega
      · cases hb'
    · cases hb
theorem start_glob {E : Env} {gM : Nat} (h : E.glob = oneGlob gM) : GlOk E (startMu gM) := by
  intro g b hb
  rw [h] at hb
  unfold oneGlob at hb
  rw [cond_eq_ite] at hb
  split at hb
  · rename_i hg
    cases hb
    have := Nat.eq_of_beq_eq_true hg
    exact ⟨⟨gM, 0, none, 0, fun _ => rfl⟩, by simp [startMu], this.symm, rfl⟩
  · cases hb

/-- A frame in which nothing old is one's own. -/
theorem Fr.toBelow {μ μ' : Mu} {g g' : AH} {w w' : World} (h : Fr μ g w μ' g' w') (hno : ∀ b, ¬ Own g b) : Below w.heap.size w w' :=
  ⟨h.os, h.tape, h.output, h.size, fun c hc => h.keep c hc fun b _ _ _ => hno b⟩
theorem start_own (m : Int) (b : Nat) : ¬ Own (start m).get b := by
  rintro ⟨o, h1, h2⟩
  rw [start_get] at h1
  split at h1
  · cases h1; cases h2
  · cases h1

/-- THE CALL: what the machine says of a law without memory of its own. -/
theorem law_calls {E : Env} (hP : ProgOk E) {gM : Nat} (hg : E.glob = oneGlob gM) {k n : Nat} {args : List Value} {m : Int} {v : Value} (hv : closed v = true) (hargs : ∀ x ∈ args, closed x = true)
    {w : World} (hm : w.cell? ⟨gM, 0, none⟩ = some (.int .i64 m)) (hmem : ∃ arr t fr, w.heap[gM]? = some (.cells arr t fr)) (h : (acall E k n args (start m)).map (·.1) = some v) :
    Calls E.P n args.toArray w fun e w' => e = .returned v ∧ Below w.heap.size w w' := by
  simp only [Option.map_eq_some_iff] at h
  obtain ⟨⟨v0, σ'⟩, h1, rfl⟩ := h
  have hwf : ∀ b, (start m).next ≤ b → (start m).get b = none := by
    intro b hb
    have : 1 ≤ b := hb
    rw [start_get, if_neg (by omega)]
  have hsim := (acall_ok hP k).sim n args _ _ _ hwf h1 (startMu gM) w args.toArray (start_glob hg) (laid_rel hm hmem) (by
    intro b hb _
    have : 1 ≤ b := hb
    unfold startMu
    rw [if_neg (by omega)]) ⟨rfl, fun i a b h1 h2 => by
      rw [h1] at h2; cases h2
      exact VRel.of_closed _ (hargs a (by simpa using List.mem_of_getElem? (by simpa using h1)))⟩
  refine hsim.mono ?_
  rintro e w' ⟨v', rfl, μ', f, r, nn, kk⟩
  rw [kk.eq_of_closed hv]
  exact ⟨rfl, f.toBelow (start_own m)⟩

/-- A CALL WITHOUT ARGUMENTS, REALLY CLOSED: one may take it whole. -/
def pClosed (v : Value) : List Value → AS → Option (Value × AS)
  | [], σ => match maxLenAt σ 0 with
    | some _ => some (v, σ)
    | none => none
  | _ :: _, _ => none
theorem closed_ok {E : Env} (hP : ProgOk E) {gM : Nat} (hg : E.glob = oneGlob gM) {k n : Nat} {v : Value} (hv : closed v = true) (h : ∀ m : Int, (acall E k n [] (start m)).map (·.1) = some v)
    {E' : Env} (hE' : E'.P = E.P) (hg' : E'.glob = E.glob) : PrimOk E' n (pClosed v) := by
  constructor
  · intro args σ v0 σ' e
    unfold pClosed at e
    split at e
    · split at e
      · simp only [Option.some.injEq, Prod.mk.injEq] at e; obtain ⟨_, rfl⟩ := e; exact .refl _
      · cases e
    · cases e
  · intro args σ v0 σ' wf e
    unfold pClosed at e
    split at e
    · split at e
      · rename_i m hm
        simp only [Option.some.injEq, Prod.mk.injEq] at e
        obtain ⟨rfl, rfl⟩ := e
        intro μ w args' hG hR hfree hargs
        have ha := hargs.of_nil
        subst ha
        have hgl : E'.glob gM = some 0 := by rw [hg', hg]; simp [oneGlob]
        have hc := maxLen_cell hgl hG hR hm
        have hmem : ∃ arr t fr, w.heap[gM]? = some (.cells arr t fr) := by
          unfold maxLenAt at hm
          split at hm
          · rename_i m0 ro gr hgg
            obtain ⟨l, h1, h2, h3⟩ := hG gM 0 hgl
            obtain ⟨arr, t, fr, k1, _⟩ := hR.obj 0 l _ h1 hgg
            exact ⟨arr, t, fr, by rw [← h2]; exact k1⟩
          · cases hm
        have := law_calls hP hg (args := []) hv (by simp) hc hmem (h m)
        rw [← hE'] at this
        refine this.mono ?_
        rintro ex w' ⟨rfl, hb⟩
        exact ⟨_, rfl, Sim.below hR hb _ _ (VRel.of_closed _ hv)⟩
      · cases e
    · cases e

/-- The environment of a program, off its own tables. -/
theorem of_ok (P : Program) (glob : Nat → Option Nat) (prim : Nat → Option (List Value → AS → Option (Value × AS))) : EnvOk (Env.of P glob prim) := by
  refine ⟨fun t d h => h, ?_, ?_, ?_, fun n f h => h⟩
  · intro t n h
    simp only [Env.of, Option.map_eq_some_iff] at h
    obtain ⟨i, h1, h2⟩ := h
    exact ⟨i, h1, h2⟩
  · intro t n h
    simp only [Env.of, Option.map_eq_some_iff] at h
    obtain ⟨i, h1, h2⟩ := h
    exact ⟨i, h1, h2⟩
  · intro t z h
    simp only [Env.of, Option.bind_eq_some_iff] at h
    obtain ⟨i, h1, h2⟩ := h
    exact ⟨i, h1, h2⟩

def funcOk (fn : Go.Func) : Bool := !(fn.name == "runtime.NumGoroutine") && (match fn.body with | some c => codeWf c | none => true)
theorem progOk_of {P : Program} {glob : Nat → Option Nat} {prim : Nat → Option (List Value → AS → Option (Value × AS))} (hm : P.follows .mixedOrders = true) (hf : P.funcs.toList.all funcOk = true)
    (hp : ∀ n g, prim n = some g → PrimOk (Env.of P glob prim) n g ∧ ∃ fn, P.funcs[n]? = some fn ∧ fn.body.isNone = false) : ProgOk (Env.of P glob prim) := by
  have key : ∀ (n : Nat) (fn : Func), P.funcs[n]? = some fn → funcOk fn = true := fun n fn h => List.all_eq_true.1 hf fn (by rw [Array.mem_toList_iff]; exact Array.mem_of_getElem? h)
  have nm : ∀ (n : Nat) (fn : Func), P.funcs[n]? = some fn → (fn.name == "runtime.NumGoroutine") = false := by
    intro n fn h
    have := key n fn h
    unfold funcOk at this
    simp only [Bool.and_eq_true, Bool.not_eq_true'] at this
    exact this.1
  refine { toEnvOk := of_ok P glob prim, mixed := hm, name := nm, code := ?_, prim := fun n g h => (hp n g h).1, primFn := ?_ }
  · intro n fn c h hb
    have := key n fn h
    unfold funcOk at this
    rw [hb] at this
    simp only [Bool.and_eq_true] at this
    exact this.2
  · intro n g h
    obtain ⟨fn, h1, h2⟩ := (hp n g h).2
    exact ⟨fn, h1, h2, nm n fn h1⟩
end
end Go.VAbs

/-! The abstract machine, part 30: the same machine, laid out so that the kernel runs it with less work. -/
namespace Go.VAbs
open Go
set_option linter.unusedVariables false
noncomputable section
set_option linter.unusedSimpArgs false

structure EvF where run : ATmps → Option Value
def evF (E : Env) : Operand → EvF
  | .tmp t => ⟨fun T => some (T.get t)⟩
  | .const v => match closed v with
    | true => ⟨fun _ => some v⟩
    | false => ⟨fun _ => none⟩
  | .global g => match E.glob g with
    | some b => ⟨fun _ => some (.pointer (some ⟨b, 0, none⟩))⟩
    | none => ⟨fun _ => none⟩
  | .func f => ⟨fun _ => some (.func (.func f) #[] #[])⟩
theorem evF_eq (E : Env) (T : ATmps) (x : Operand) : (evF E x).run T = ev E T x := by
  cases x with
  | tmp t => rfl
  | const v => simp only [evF, ev]; cases closed v <;> rfl
  | global g => simp only [evF, ev]; cases E.glob g <;> rfl
  | func f => rfl
structure EvsF where run : ATmps → Option (List Value)
def evsF (E : Env) : List Operand → EvsF
  | [] => ⟨fun _ => some []⟩
  | x :: r => ⟨fun T => match (evF E x).run T with
    | some v => match (evsF E r).run T with
      | some l => some (v :: l)
      | none => none
    | none => none⟩
theorem evsF_eq (E : Env) (T : ATmps) : ∀ l, (evsF E l).run T = evs E T l
  | [] => rfl
  | x :: r => by
    simp only [evsF, evs, evF_eq, evsF_eq E T r]
    cases ev E T x with
    | none => rfl
    | some v => cases evs E T r <;> rfl

def ltB : List UInt8 → List UInt8 → Bool
  | _, [] => false
  | [], _ :: _ => true
  | a :: x, b :: y => cond (Nat.blt a.toNat b.toNat) true (cond (Nat.beq a.toNat b.toNat) (ltB x y) false)
theorem ltB_eq : ∀ (x y : List UInt8), ltB x y = Op.bytesLess x y
  | [], [] => rfl
  | _ :: _, [] => rfl
  | [], _ :: _ => rfl
  | a :: x, b :: y => by
    simp only [ltB, Op.bytesLess, ltB_eq x y]
    have h1 : Nat.blt a.toNat b.toNat = decide (a < b) := by
      by_cases h : a < b
      · rw [decide_eq_true h, Nat.blt_eq]; exact UInt8.lt_iff_toNat_lt.1 h
      · rw [decide_eq_false h]
        cases hb : Nat.blt a.toNat b.toNat with
        | false => rfl
        | true => exact absurd (UInt8.lt_iff_toNat_lt.2 (Nat.blt_eq.mp hb)) h
    have h2 : Nat.beq a.toNat b.toNat = (a == b) := by
      by_cases h : a = b
      · subst h; rw [Nat.beq_refl]; simp
      · have : Nat.beq a.toNat b.toNat = false := by
          cases hb : Nat.beq a.toNat b.toNat with
          | false => rfl
          | true => exact absurd (UInt8.toNat_inj.1 (Nat.eq_of_beq_eq_true hb)) h
        rw [this]; simp [h]
    rw [h1, h2]
    cases decide (a < b) <;> cases (a == b) <;> simp
/-- Strings: with lists. -/
def strBin (op : BinOp) (a b : ByteArray) : Option Value :=
  match op with
  | .add => cond (decide (((a.size + b.size : Nat) : Int) > IntKind.i64.max)) none (some (.string ⟨⟨a.data.toList ++ b.data.toList⟩⟩))
  | .eql => some (.bool (eqB a.data.toList b.data.toList))
  | .neq => some (.bool !(eqB a.data.toList b.data.toList))
  | .lss => some (.bool (ltB a.data.toList b.data.toList))
  | .leq => some (.bool (ltB a.data.toList b.data.toList || eqB a.data.toList b.data.toList))
  | .gtr => some (.bool !(ltB a.data.toList b.data.toList || eqB a.data.toList b.data.toList))
  | .geq => some (.bool !(ltB a.data.toList b.data.toList))
  | _ => none
theorem strBin_eq (E : Env) (op : BinOp) (t : TypeId) (x y : Operand) (a b : ByteArray) : strBin op a b = abin E op t x y (.string a) (.string b) := by
  have hadd : a ++ b = ⟨⟨a.data.toList ++ b.data.toList⟩⟩ := by
    have := ByteArray.toList_data_append (l := a) (l' := b)
    generalize a ++ b = c at this
    cases c with | mk d => cases d with | mk l => simp at this; rw [this]
  have heq : (a.data.toList == b.data.toList) = eqB a.data.toList b.data.toList := by
    cases h : eqB a.data.toList b.data.toList with
    | true => rw [beq_iff_eq]; exact (eqB_iff _ _).1 h
    | false =>
      rw [beq_eq_false_iff_ne]
      intro he
      rw [(eqB_iff _ _).2 he] at h; cases h
  have hs : ∀ op, binOp op t (.string a) (.string b) = Op.stringOp op a b := by intro op; cases op <;> rfl
  simp only [abin, isLit, Bool.and_self, cond_true, pureVal, hs, Op.stringOp, ByteArray.toList_eq, heq, ← ltB_eq]
  cases op <;> simp only [strBin] <;> first
    | rfl
    | skip
  rw [cond_eq_ite]
  by_cases q : ((a.size + b.size : Nat) : Int) > IntKind.i64.max
  · rw [if_pos q, if_pos (decide_eq_true q)]; rfl
  · rw [if_neg q, if_neg (by simpa using q), hadd]; rfl

structure BinF where run : Value → Value → Option Value
def binF (E : Env) (op : BinOp) (t : TypeId) (x y : Operand) : BinF :=
  match op with
  | .add => ⟨fun a b => match a, b with
    | .int k m, .int j n => cond (decide (k = j)) (some (.int k (k.wrap (m + n)))) none
    | .string a, .string b => strBin .add a b
    | a, b => abin E .add t x y a b⟩
  | .sub => ⟨fun a b => match a, b with
    | .int k m, .int j n => cond (decide (k = j)) (some (.int k (k.wrap (m - n)))) none
    | .string a, .string b => strBin .sub a b
    | a, b => abin E .sub t x y a b⟩
  | .lss => ⟨fun a b => match a, b with
    | .int k m, .int j n => cond (decide (k = j)) (some (.bool (decide (m < n)))) none
    | .string a, .string b => strBin .lss a b
    | a, b => abin E .lss t x y a b⟩
  | .eql => ⟨fun a b => match a, b with
    | .int k m, .int j n => cond (decide (k = j)) (some (.bool (m == n))) none
    | .string a, .string b => strBin .eql a b
    | a, b => abin E .eql t x y a b⟩
  | .neq => ⟨fun a b => match a, b with
    | .int k m, .int j n => cond (decide (k = j)) (some (.bool (m != n))) none
    | .string a, .string b => strBin .neq a b
    | a, b => abin E .neq t x y a b⟩
  | op => ⟨fun a b => match a, b with
    | .string a, .string b => strBin op a b
    | a, b => abin E op t x y a b⟩
theorem binF_eq (E : Env) (op : BinOp) (t : TypeId) (x y : Operand) (a b : Value) : (binF E op t x y).run a b = abin E op t x y a b := by
  have key : ∀ (op : BinOp) (k j : IntKind) (m n : Int) (v : Value), closed v = true → (k = j → binOp op t (.int k m) (.int j n) = pure v) → (k ≠ j → pureRun E.P (binOp op t (.int k m) (.int j n)) = none) →
      cond (decide (k = j)) (some v) none = abin E op t x y (.int k m) (.int j n) := by
    intro op k j m n v hv h1 h2
    simp only [abin, isLit, Bool.and_self, cond_true, pureVal]
    by_cases q : k = j
    · rw [h1 q]
      simp only [q, decide_true, cond_true]
      show _ = (match pureRun E.P (Sem.pure v) with | some r => cond (closed r) (some r) none | none => none)
      simp only [pureRun, hv, cond_true]
    · rw [h2 q]
      simp only [q, decide_false, cond_false]
  cases op <;> simp only [binF] <;> (split <;> first
    | rfl
    | exact strBin_eq E _ t x y _ _
    | (refine key _ _ _ _ _ _ rfl ?_ ?_
       · rintro rfl
         simp [binOp, Op.intArith, Op.intCmp]
       · intro q
         simp [binOp, q]
         rfl))
structure OpF where run : ACall → ATmps → AS → Option (Value × AS × Foot)
def opF (E : Env) (op : Op) : OpF :=
  match op with
  | .move x | .assign x => ⟨fun _ T σ => match (evF E x).run T with
    | some v => some (v, σ, .pure)
    | none => none⟩
  | .binOp op t x y _ => ⟨fun _ T σ => match (evF E x).run T, (evF E y).run T with
    | some a, some b => match (binF E op t x y).run a b with
      | some v => some (v, σ, .pure)
      | none => none
    | _, _ => none⟩
  | .fieldAddr s x f => match E.und s with
    | some (.struct fs) => match fs[f]? with
      | some f => match E.size f.type with
        | some (_ + 1) => ⟨fun _ T σ => match (evF E x).run T with
          | some (.pointer (some a)) => some (.pointer (some (a.add f.offset)), σ, .pure)
          | _ => none⟩
        | _ => ⟨fun _ _ _ => none⟩
      | none => ⟨fun _ _ _ => none⟩
    | _ => ⟨fun _ _ _ => none⟩
  | .load t a => ⟨fun _ T σ => match (evF E a).run T with
    | some (.pointer (some a)) => match aload E σ t a with
      | some v => some (v, σ, .rd a.block)
      | none => none
    | _ => none⟩
  | .store t a x => ⟨fun _ T σ => match (evF E a).run T, (evF E x).run T with
    | some (.pointer (some a)), some v => match astore E σ t a v with
      | some σ' => some (undef, σ', .wr a.block)
      | none => none
    | _, _ => none⟩
  | .alloc e => match E.zero e with
    | some z => match closed z with
      | true => ⟨fun _ T σ => some (.pointer (some ⟨σ.next, 0, none⟩), σ.alloc (.cells z.cells.toList false none), .alloc σ.next)⟩
      | false => ⟨fun _ _ _ => none⟩
    | none => ⟨fun _ _ _ => none⟩
  | .box e x => ⟨fun _ T σ => match (evF E x).run T with
    | some v => some (.pointer (some ⟨σ.next, 0, none⟩), σ.alloc (.cells v.cells.toList false none), .alloc σ.next)
    | none => none⟩
  | .slice t x lo hi none => match E.und t with
    | some .string => ⟨fun _ T σ => match (evF E x).run T, evOpt E T lo, evOpt E T hi with
      | some (.string s), some lo, some hi => match abounds s.size s.size lo hi none with
        | some r => some (.string ⟨⟨(s.data.toList.drop r.1).take (r.2.1 - r.1)⟩⟩, σ, .pure)
        | none => none
      | _, _, _ => none⟩
    | _ => ⟨fun call T σ => aoper E call T { op, dst := none, type := 0, pos := "", after := #[], guard := none } σ⟩
  | .index t x i => match E.und t with
    | some .string => ⟨fun _ T σ => match (evF E x).run T, (evF E i).run T with
      | some (.string s), some (.int _ i) => cond (decide (0 ≤ i)) (match s.data.toList[i.toNat]? with
        | some b => some (.int .u8 b.toNat, σ, .pure)
        | none => none) none
      | _, _ => none⟩
    | _ => ⟨fun call T σ => aoper E call T { op, dst := none, type := 0, pos := "", after := #[], guard := none } σ⟩
  | .indexAddr t x i => ⟨fun _ T σ => match (evF E x).run T, (evF E i).run T with
    | some a, some b => match aindexAddr E t a b with
      | some v => some (v, σ, .pure)
      | none => none
    | _, _ => none⟩
  | .extract x i => ⟨fun _ T σ => match (evF E x).run T with
    | some (.tuple vs) => match vs[i]? with
      | some v => some (v, σ, .pure)
      | none => none
    | _ => none⟩
  | .call c => match c.callee with
    | .value f => ⟨fun call T σ => match (evF E f).run T, (evsF E c.args.toList).run T with
      | some (.func (.func n) a b), some l => match call n (a.toList ++ l ++ b.toList) { σ with low := σ.next } with
        | some (v, σ') => some (v, { σ' with low := min σ.low σ'.low }, .all (Nat.blt σ'.low σ.next))
        | none => none
      | _, _ => none⟩
    | _ => ⟨fun call T σ => aoper E call T { op, dst := none, type := 0, pos := "", after := #[], guard := none } σ⟩
  | _ => ⟨fun call T σ => aoper E call T { op, dst := none, type := 0, pos := "", after := #[], guard := none } σ⟩
theorem opF_eq (E : Env) (call : ACall) (T : ATmps) (σ : AS) (o : Oper) : (opF E o.op).run call T σ = aoper E call T o σ := by
  unfold aoper
  cases ho : o.op with
  | move x => simp only [opF, evF_eq, acallee, apure]; cases ev E T x <;> rfl
  | assign x => simp only [opF, evF_eq, acallee, apure]; cases ev E T x <;> rfl
  | binOp op t x y yt =>
    simp only [opF, evF_eq, acallee, apure, binF_eq]
    cases ev E T x with
    | none => rfl
    | some a => cases ev E T y with
      | none => rfl
      | some b => simp only; cases abin E op t x y a b <;> rfl
  | fieldAddr s x f =>
    simp only [opF, acallee, apure]
    cases hu : E.und s with
    | none => rfl
    | some d =>
      cases d <;> try rfl
      rename_i fs
      simp only
      cases hf : fs[f]? with
      | none =>
        simp only
        cases ev E T x with
        | none => rfl
        | some v => cases v <;> try rfl
                    rename_i p; cases p <;> first | rfl | (simp only [hf]; rfl)
      | some fl =>
        simp only
        cases hs : E.size fl.type with
        | none =>
          simp only
          cases ev E T x with
          | none => rfl
          | some v => cases v <;> try rfl
                      rename_i p; cases p <;> first | rfl | (simp only [hf, hs]; rfl)
        | some n =>
          cases n with
          | zero =>
            simp only
            cases ev E T x with
            | none => rfl
            | some v => cases v <;> try rfl
                        rename_i p; cases p <;> first | rfl | (simp only [hf, hs]; rfl)
          | succ n =>
            simp only [evF_eq]
            cases ev E T x with
            | none => rfl
            | some v => cases v <;> try rfl
                        rename_i p; cases p <;> first | rfl | (simp only [hf, hs])
  | load t a =>
    simp only [opF, evF_eq, acallee, apure, aalloc]
    cases ev E T a with
    | none => rfl
    | some v => cases v <;> try rfl
                rename_i p
                cases p with
                | none => rfl
                | some p => simp only; cases aload E σ t p <;> rfl
  | store t a x =>
    simp only [opF, evF_eq, acallee, apure, aalloc]
    cases ev E T a with
    | none => rfl
    | some v => cases v <;> try rfl
                rename_i p
                cases p with
                | none => rfl
                | some p => cases ev E T x with
                  | none => rfl
                  | some u => simp only; cases astore E σ t p u <;> rfl
  | alloc e =>
    simp only [opF, acallee, apure, aalloc]
    cases E.zero e with
    | none => rfl
    | some z => simp only; cases closed z <;> rfl
  | box e x => simp only [opF, evF_eq, acallee, apure, aalloc]; cases ev E T x <;> rfl
  | slice t x lo hi mx =>
    cases mx with
    | some _ => simp only [opF]; unfold aoper; rfl
    | none =>
      cases hu : E.und t with
      | none => simp only [opF, hu]; unfold aoper; rfl
      | some d =>
        cases d <;> simp only [opF, hu] <;> first
          | (unfold aoper; rfl)
          | skip
        have hm : evOpt E T none = some none := rfl
        have hx : ∀ (s : ByteArray) (l h : Nat), s.extract l h = ⟨⟨(s.data.toList.drop l).take (h - l)⟩⟩ := by
          intro s l h
          have e1 := ByteArray.data_extract (a := s) (b := l) (e := h)
          have e2 : (s.data.extract l h).toList = (s.data.toList.drop l).take (h - l) := by simp [List.extract]
          generalize s.extract l h = c at e1
          cases c with | mk d => cases d with | mk ls => simp only at e1; rw [← e2, ← e1]
        simp only [evF_eq, acallee, apure, hm, aalloc, aslice2, hu]
        cases ev E T x with
        | none => simp only [Option.map_none]
        | some v =>
          cases evOpt E T lo with
          | none => cases v <;> simp only [Option.map_none]
          | some lo =>
            cases evOpt E T hi with
            | none => cases v <;> simp only [Option.map_none]
            | some hi =>
              cases v <;> simp only [aslice, hu, Option.map_none]
              rename_i s
              cases abounds s.size s.size lo hi none with
              | none => simp only [Option.map_none]
              | some r => simp only [Option.map_some, hx]
  | index t x i =>
    cases hu : E.und t with
    | none => simp only [opF, hu]; unfold aoper; rfl
    | some d =>
      cases d <;> simp only [opF, hu] <;> first
        | (unfold aoper; rfl)
        | skip
      simp only [evF_eq, acallee, apure, aalloc, amem]
      cases ev E T x with
      | none => simp only [Option.map_none]
      | some v =>
        cases ev E T i with
        | none => cases v <;> simp only [Option.map_none]
        | some u =>
          cases v <;> simp only [aindex, hu, Option.map_none]
          cases u <;> simp only [Option.map_none, cond_eq_ite]
          split
          · rw [← Array.getElem?_toList]
            split <;> simp_all
          · rfl
  | indexAddr t x i =>
    simp only [opF, evF_eq, acallee, apure]
    cases ev E T x with
    | none => rfl
    | some a => cases ev E T i with
      | none => rfl
      | some b => simp only; cases aindexAddr E t a b <;> rfl
  | extract x i =>
    simp only [opF, evF_eq, acallee, apure]
    cases ev E T x with
    | none => rfl
    | some v => cases v <;> try rfl
  | call c =>
    obtain ⟨callee, args, ts⟩ := c
    cases callee with
    | value f =>
      simp only [opF, evF_eq, evsF_eq, acallee]
      cases ev E T f with
      | none => rfl
      | some v => cases v <;> try rfl
                  rename_i fn a b
                  cases fn <;> try rfl
                  rename_i n
                  cases evs E T args.toList with
                  | none => rfl
                  | some l => simp only; cases call n (a.toList ++ l ++ b.toList) { σ with low := σ.next } <;> rfl
    | _ => simp only [opF]; unfold aoper; rfl
  | _ => simp only [opF]; unfold aoper; rfl

structure RegF where run : ACall → ATmps → AS → Option (ATmps × AS × List Foot)
def regF (E : Env) (ops : Array Oper) : List Oper → RegF
  | [] => ⟨fun _ T σ => some (T, σ, [])⟩
  | o :: r => match o.guard, o.dst with
    | none, some d => ⟨fun call T σ => match (opF E o.op).run call T σ with
      | some (v, σ', f) => cond (Nat.blt d T.size) (match (regF E ops r).run call { T with tr := T.tr.set d v } σ' with
        | some (T2, σ2, fs) => some (T2, σ2, f :: fs)
        | none => none) none
      | none => none⟩
    | none, none => ⟨fun call T σ => match (opF E o.op).run call T σ with
      | some (v, σ', f) => match (regF E ops r).run call T σ' with
        | some (T2, σ2, fs) => some (T2, σ2, f :: fs)
        | none => none
      | none => none⟩
    | some _, _ => ⟨fun call T σ => match awanted ops T o with
      | some true => match (opF E o.op).run call T σ with
        | some (v, σ', f) => match T.put o.dst v with
          | some T' => match (regF E ops r).run call T' σ' with
            | some (T2, σ2, fs) => some (T2, σ2, f :: fs)
            | none => none
          | none => none
        | none => none
      | some false => match T.put o.dst undef with
        | some T' => match (regF E ops r).run call T' σ with
          | some (T2, σ2, fs) => some (T2, σ2, .pure :: fs)
          | none => none
        | none => none
      | none => none⟩
theorem regF_eq (E : Env) (ops : Array Oper) (call : ACall) : ∀ (r : List Oper) (T : ATmps) (σ : AS), (regF E ops r).run call T σ = aops E call ops r T σ
  | [], T, σ => rfl
  | o :: r, T, σ => by
    have ih := regF_eq E ops call r
    simp only [regF, aops]
    cases hg : o.guard with
    | none =>
      have hw : awanted ops T o = some true := by unfold awanted; rw [hg]
      cases hd : o.dst with
      | none =>
        simp only [opF_eq, hw, hd]
        cases aoper E call T o σ with
        | none => rfl
        | some x =>
          obtain ⟨v, σ', f⟩ := x
          simp only [ATmps.put, ih]
          cases aops E call ops r T σ' with
          | none => rfl
          | some y => rfl
      | some d =>
        simp only [opF_eq, hw, hd]
        cases aoper E call T o σ with
        | none => rfl
        | some x =>
          obtain ⟨v, σ', f⟩ := x
          simp only [ATmps.put, ih]
          cases Nat.blt d T.size with
          | false => rfl
          | true =>
            simp only [cond_true]
            cases aops E call ops r { tr := T.tr.set d v, size := T.size } σ' with
            | none => rfl
            | some y => rfl
    | some g =>
      simp only [opF_eq, ih]
      cases awanted ops T o with
      | none => rfl
      | some b => cases b with
        | true =>
          simp only
          cases aoper E call T o σ with
          | none => rfl
          | some x =>
            obtain ⟨v, σ', f⟩ := x
            simp only
            cases T.put o.dst v with
            | none => rfl
            | some T' => simp only; cases aops E call ops r T' σ' <;> rfl
        | false =>
          simp only
          cases T.put o.dst undef with
          | none => rfl
          | some T' => simp only; cases aops E call ops r T' σ <;> rfl

structure CodeF where run : ACall → Nat → ATmps → AS → Option (AExit × ATmps × AS)
def loopF (b : CodeF) (call : ACall) (k0 : Nat) : Nat → ATmps → AS → Option (AExit × ATmps × AS)
  | 0, _, _ => none
  | k + 1, T, σ => match b.run call k0 T σ with
    | some (e, T', σ') => match e with
      | .normal => loopF b call k0 k T' σ'
      | e => some (e, T', σ')
    | none => none
theorem loopF_eq (b : CodeF) (call : ACall) (k0 : Nat) : ∀ k T σ, loopF b call k0 k T σ = aloop (b.run call k0) k T σ
  | 0, _, _ => rfl
  | k + 1, T, σ => by
    simp only [loopF, aloop]
    cases b.run call k0 T σ with
    | none => rfl
    | some x =>
      obtain ⟨e, T', σ'⟩ := x
      cases e <;> first | exact loopF_eq b call k0 k T' σ' | rfl
def codeF (E : Env) : Code → CodeF
  | .skip => ⟨fun _ _ T σ => some (.normal, T, σ)⟩
  | .label _ => ⟨fun _ _ T σ => some (.normal, T, σ)⟩
  | .region _ ops false => ⟨fun call _ T σ => match (regF E ops ops.toList).run call T σ with
    | some (T', σ', _) => some (.normal, T', σ')
    | none => none⟩
  | .region _ ops true => ⟨fun call _ T σ => match (regF E ops ops.toList).run call T σ with
    | some (T', σ', fs) => cond (noClash fs (pairsOf ops)) (some (.normal, T', σ')) none
    | none => none⟩
  | .seq a b => ⟨fun call k T σ => match (codeF E a).run call k T σ with
    | some (e, T', σ') => match e with
      | .normal => (codeF E b).run call k T' σ'
      | e => some (e, T', σ')
    | none => none⟩
  | .cond c a b => ⟨fun call k T σ => match (evF E c).run T with
    | some (.bool x) => match x with
      | true => (codeF E a).run call k T σ
      | false => (codeF E b).run call k T σ
    | _ => none⟩
  | .block id b => ⟨fun call k T σ => match (codeF E b).run call k T σ with
    | some (e, T', σ') => match e with
      | .exit id' => cond (Nat.beq id' id) (some (.normal, T', σ')) (some (.exit id', T', σ'))
      | e => some (e, T', σ')
    | none => none⟩
  | .loop b => ⟨fun call k T σ => loopF (codeF E b) call k k T σ⟩
  | .exit id => ⟨fun _ _ T σ => some (.exit id, T, σ)⟩
  | .ret => ⟨fun _ _ T σ => some (.ret, T, σ)⟩
  | _ => ⟨fun _ _ _ _ => none⟩
theorem codeF_eq (E : Env) (call : ACall) (k : Nat) : ∀ (c : Code) (T : ATmps) (σ : AS), (codeF E c).run call k T σ = acode E call k c T σ := by
  intro c
  induction c with
  | skip => intro T σ; rfl
  | label l => intro T σ; rfl
  | exit id => intro T σ; rfl
  | ret => intro T σ; rfl
  | region id ops d =>
    intro T σ
    cases d with
    | false =>
      simp only [codeF, acode, regF_eq]
      cases aops E call ops ops.toList T σ <;> rfl
    | true =>
      simp only [codeF, acode, regF_eq]
      cases aops E call ops ops.toList T σ <;> rfl
  | seq a b iha ihb =>
    intro T σ
    simp only [codeF, acode, iha]
    cases acode E call k a T σ with
    | none => rfl
    | some x =>
      obtain ⟨e, T', σ'⟩ := x
      cases e <;> first | exact ihb T' σ' | rfl
  | cond c a b iha ihb =>
    intro T σ
    simp only [codeF, acode, evF_eq]
    cases ev E T c with
    | none => rfl
    | some v =>
      cases v <;> try rfl
      rename_i x
      cases x
      · exact ihb T σ
      · exact iha T σ
  | block id b ih =>
    intro T σ
    simp only [codeF, acode, ih]
    cases acode E call k b T σ with
    | none => rfl
    | some x =>
      obtain ⟨e, T', σ'⟩ := x
      cases e <;> rfl
  | loop b ih =>
    intro T σ
    simp only [codeF, acode, loopF_eq]
    congr 1
    funext T σ
    exact ih T σ
  | _ => intro T σ; rfl

structure FuncF where run : ACall → Nat → List Value → AS → Option (Value × AS)
def funcF (E : Env) (fn : Func) : FuncF :=
  match fn.body with
  | none => ⟨fun _ _ _ _ => none⟩
  | some c => ⟨fun call k args σ => match (codeF E c).run call k { tr := startTr args 0 .e, size := args.length + (fn.ntmps - args.length) } σ with
    | some (e, T, σ') => match e with
      | .exit _ => none
      | _ => match ares E T σ' fn.results.toList with
        | some l => some (resValue l, σ')
        | none => none
    | none => none⟩
theorem funcF_eq (E : Env) (call : ACall) (k : Nat) (fn : Func) (args : List Value) (σ : AS) : (funcF E fn).run call k args σ = afunc E call k fn args σ := by
  unfold funcF afunc
  cases fn.body with
  | none => rfl
  | some c =>
    simp only [codeF_eq]
    cases acode E call k c { tr := startTr args 0 .e, size := args.length + (fn.ntmps - args.length) } σ with
    | none => rfl
    | some x =>
      obtain ⟨e, T, σ'⟩ := x
      cases e with
      | exit id => rfl
      | normal => simp only; cases ares E T σ' fn.results.toList <;> rfl
      | ret => simp only; cases ares E T σ' fn.results.toList <;> rfl
/-- What stands for a function: taken whole, or its code. -/
structure SlotF where run : ACall → Nat → List Value → AS → Option (Value × AS)
def slotF (E : Env) (n : Nat) : SlotF :=
  match E.prim n with
  | some g => ⟨fun _ _ args σ => g args σ⟩
  | none => match E.fn n with
    | some fn => ⟨fun call k args σ => (funcF E fn).run call k args σ⟩
    | none => ⟨fun _ _ _ _ => none⟩
def fcall (E : Env) : Nat → ACall
  | 0 => fun _ _ _ => none
  | k + 1 => fun n args σ => (slotF E n).run (fcall E k) (k + 1) args σ
theorem fcall_eq (E : Env) : ∀ k, fcall E k = acall E k
  | 0 => rfl
  | k + 1 => by
    funext n args σ
    simp only [fcall, acall, slotF]
    cases E.prim n with
    | some g => rfl
    | none =>
      cases E.fn n with
      | none => rfl
      | some fn => simp only [funcF_eq, fcall_eq E k]
end
end Go.VAbs
