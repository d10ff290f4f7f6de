/- AuditCounts returns true for every row of flaws: flaws by kinds are as the chapter says. -/
import Derived.Test.YtabekkhkffkepaaGreatDoorTie
import Derived.Test.YtabekkhkffkepaaGreatDoorCards
import Derived.Test.YtabekkhkffkepaaGreatDoorEnv
import Derived.ProofKit
import Derived.OpenShut
import Derived.ShutString
import Derived.ChangeSame
import Derived.Deep.SlicePairs
import Derived.ChangeOld
import Derived.LaidMore
import Derived.Lay
import Derived.SevenTiedAt
import Derived.Stop.Joined
import Derived.Shelf.Vars
import Derived.KernelRfl
namespace Go.Proofs.YtabekkhkffkepaaGreatDoor
open Go Go.VAbs Go.RowKit Go.ChangeShapes Go.WideShapes Go.ChangeAt
open Go.ChangeMaps (open_string shut_string)
set_option linter.unusedVariables false
set_option linter.unusedSimpArgs false
set_option maxRecDepth 1000000
theorem awakeK : ∀ m : Int, kval E0 3000 5 [] (VAbs.start m) = some (.bool true) := by
  intro m
  kernel_rfl
theorem awake (m : Int) : (acall E0 3000 5 [] (VAbs.start m)).map (·.1) = some (.bool true) := kval_ok (awakeK m)
/-! ### What is counted -/
/-- A flaw's kind, by classes: below nothing; 0 to 11; above. -/
def zz (c d : Nat) : Int := match c with
  | 0 => Int.negSucc d
  | 13 => Int.ofNat (d + 12)
  | c + 1 => Int.ofNat c
def zfo (j : Nat) (z : Int) (zf : Nat → Int) : Nat → Int := fun x => if x = j then z else zf x
/-- The first i flaws' cells, and more. -/
def fl (zf : Nat → Int) (sf : Nat → ByteArray) : Nat → List Value → List Value
  | 0, R => R
  | i + 1, R => fl zf sf i (.int .i64 (zf i) :: .string (sf i) :: R)
def nC (wf : Nat → Nat) (k : Nat) : Value := .int .i64 (Int.ofNat (wf k))
def wantL (wf : Nat → Nat) : List Value := [nC wf 0, nC wf 1, nC wf 2, nC wf 3, nC wf 4, nC wf 5, nC wf 6, nC wf 7, nC wf 8, nC wf 9, nC wf 10, nC wf 11]
noncomputable def wantR (c : Nat) (wf : Nat → Nat) : List Value := match c with
  | 0 | 1 | 13 => wantL wf
  | c + 1 => (wantL wf).set c (.int .i64 (kwrapN .i64 (Nat.add (wf c) 1)))
/-- Temporaries that come out. -/
def tfill : List Value → Nat → KT → KT
  | [], _, t => t
  | v :: r, i, t => tfill r (i + 1) (t.put i v)
def tdump : Nat → Nat → KT → List Value
  | 0, _, _ => []
  | n + 1, i, t => t.get i :: tdump n (i + 1) t
def kOut (N : Nat) (t : KT) (σ : AS) : KR := some (.agg ⟨tdump N 0 t⟩, σ)
def toutK (t : KT) : KR → KT
  | some (.agg ⟨l⟩, _) => tfill l 0 t
  | _ => t
def soutK : KR → List Nat
  | some (_, σ) => σ.ws
  | none => []
noncomputable def kNo : KT → AS → KR := fun _ _ => none
/-! ### audit.Counts, of a row that nobody writes -/
noncomputable def bC : Code := (Tryz.f4.body).getD .skip
noncomputable def CL : Code := cA (cA (cB (cA (cB (cB bC)))))
noncomputable def CR : Code := cB (cB (cB bC))
noncomputable def CK : KCode := kcode E0 28 CL
def box (z : Int) (s : ByteArray) : AObj := .cells [.int .i64 z, .string s] false none
noncomputable def hC (m : Int) (X w : List Value) (zf : Nat → Int) (sf : Nat → ByteArray) : Nat → Tr AObj
  | 0 => (((((Tr.e : Tr AObj).set 0 (.cells [.int .i64 m] true none)).set 1 (.cells X true (some 2))).set 2 (.cells (wantL fun _ => 0) false none)).set 3 (.cells w false none))
  | j + 1 => (hC m X w zf sf j).set (4 + j) (box (zf j) (sf j))
noncomputable def SC (m : Int) (X w : List Value) (zf : Nat → Int) (sf : Nat → ByteArray) (j : Nat) (ws : List Nat) : AS := ⟨hC m X w zf sf j, 4 + j, ws⟩
def TC (t : KT) (n cap j : Nat) : KT := ((((t.put 2 (.pointer (some ⟨2, 0, none⟩))).put 3 (.pointer (some ⟨3, 0, none⟩))).put 6 (.slice (some ⟨1, 0, none⟩) n cap)).put 7 (.int .i64 (Int.ofNat n))).put 8 (.int .i64 (Int.ofNat j))
noncomputable def runC (kc : KCall) (k : Nat) (t : KT) (σ : AS) : KR := CK.run kc k t σ (kOut 28) (fun _ => kNo) kNo
structure VarsC where
  (kc : KCall) (k : Nat) (t : KT) (m : Int) (zf : Nat → Int) (sf : Nat → ByteArray) (wf : Nat → Nat) (ws : List Nat) (R : List Value) (d d' cap : Nat)
noncomputable def sC (v : VarsC) (j c : Nat) : AS := SC v.m (fl (zfo j (zz c v.d) v.zf) v.sf (j + 1) v.R) (wantL v.wf) (zfo j (zz c v.d) v.zf) v.sf j v.ws
noncomputable def lhsC (v : VarsC) (kn : KT → AS → KR) (kx : Nat → KT → AS → KR) (kr : KT → AS → KR) (j c : Nat) : KR := CK.run v.kc v.k (TC v.t (v.d' + (j + 1)) v.cap j) (sC v j c) kn kx kr
noncomputable def rhsC (v : VarsC) (kn : KT → AS → KR) (j c : Nat) : KR :=
  kn (toutK (TC v.t (v.d' + (j + 1)) v.cap j) (runC v.kc v.k (TC v.t (v.d' + (j + 1)) v.cap j) (sC v j c)))
    (SC v.m (fl (zfo j (zz c v.d) v.zf) v.sf (j + 1) v.R) (wantR c v.wf) (zfo j (zz c v.d) v.zf) v.sf (j + 1) (soutK (runC v.kc v.k (TC v.t (v.d' + (j + 1)) v.cap j) (sC v j c))))
def classes : List Nat := [0, 1, 2, 3, 4, 5, 6, 7, 8, 9, 10, 11, 12, 13]
def itC (j : Nat) : Prop := ∀ (v : VarsC) (kn : KT → AS → KR) (kx : Nat → KT → AS → KR) (kr : KT → AS → KR), classes.map (lhsC v kn kx kr j) = classes.map (rhsC v kn j)
def liveC (t : KT) : List Value := [t.get 2, t.get 3, t.get 6, t.get 7, t.get 8]
def ltC (j : Nat) : Prop := ∀ (v : VarsC), classes.map (fun c => liveC (toutK (TC v.t (v.d' + (j + 1)) v.cap j) (runC v.kc v.k (TC v.t (v.d' + (j + 1)) v.cap j) (sC v j c)))) = classes.map fun _ => liveC (TC v.t (v.d' + (j + 1)) v.cap (j + 1))
theorem itC_0 : itC 0 := by intro v kn kx kr; kernel_rfl
theorem itC_1 : itC 1 := by intro v kn kx kr; kernel_rfl
theorem itC_2 : itC 2 := by intro v kn kx kr; kernel_rfl
theorem itC_3 : itC 3 := by intro v kn kx kr; kernel_rfl
theorem itC_4 : itC 4 := by intro v kn kx kr; kernel_rfl
theorem itC_5 : itC 5 := by intro v kn kx kr; kernel_rfl
theorem itC_6 : itC 6 := by intro v kn kx kr; kernel_rfl
theorem itC_7 : itC 7 := by intro v kn kx kr; kernel_rfl
theorem itC_8 : itC 8 := by intro v kn kx kr; kernel_rfl
theorem itC_9 : itC 9 := by intro v kn kx kr; kernel_rfl
theorem itC_10 : itC 10 := by intro v kn kx kr; kernel_rfl
theorem itC_11 : itC 11 := by intro v kn kx kr; kernel_rfl
theorem itC_12 : itC 12 := by intro v kn kx kr; kernel_rfl
theorem itC_13 : itC 13 := by intro v kn kx kr; kernel_rfl
theorem itC_14 : itC 14 := by intro v kn kx kr; kernel_rfl
theorem itC_15 : itC 15 := by intro v kn kx kr; kernel_rfl
theorem itC_16 : itC 16 := by intro v kn kx kr; kernel_rfl
theorem itC_17 : itC 17 := by intro v kn kx kr; kernel_rfl
theorem itC_18 : itC 18 := by intro v kn kx kr; kernel_rfl
theorem itC_19 : itC 19 := by intro v kn kx kr; kernel_rfl
theorem itC_20 : itC 20 := by intro v kn kx kr; kernel_rfl
theorem itC_21 : itC 21 := by intro v kn kx kr; kernel_rfl
theorem itC_22 : itC 22 := by intro v kn kx kr; kernel_rfl
theorem itC_23 : itC 23 := by intro v kn kx kr; kernel_rfl
theorem itC_24 : itC 24 := by intro v kn kx kr; kernel_rfl
theorem itC_25 : itC 25 := by intro v kn kx kr; kernel_rfl
theorem itC_26 : itC 26 := by intro v kn kx kr; kernel_rfl
theorem itC_27 : itC 27 := by intro v kn kx kr; kernel_rfl
theorem itC_28 : itC 28 := by intro v kn kx kr; kernel_rfl
theorem itC_29 : itC 29 := by intro v kn kx kr; kernel_rfl
theorem ltC_0 : ltC 0 := by intro v; kernel_rfl
theorem ltC_1 : ltC 1 := by intro v; kernel_rfl
theorem ltC_2 : ltC 2 := by intro v; kernel_rfl
theorem ltC_3 : ltC 3 := by intro v; kernel_rfl
theorem ltC_4 : ltC 4 := by intro v; kernel_rfl
theorem ltC_5 : ltC 5 := by intro v; kernel_rfl
theorem ltC_6 : ltC 6 := by intro v; kernel_rfl
theorem ltC_7 : ltC 7 := by intro v; kernel_rfl
theorem ltC_8 : ltC 8 := by intro v; kernel_rfl
theorem ltC_9 : ltC 9 := by intro v; kernel_rfl
theorem ltC_10 : ltC 10 := by intro v; kernel_rfl
theorem ltC_11 : ltC 11 := by intro v; kernel_rfl
theorem ltC_12 : ltC 12 := by intro v; kernel_rfl
theorem ltC_13 : ltC 13 := by intro v; kernel_rfl
theorem ltC_14 : ltC 14 := by intro v; kernel_rfl
theorem ltC_15 : ltC 15 := by intro v; kernel_rfl
theorem ltC_16 : ltC 16 := by intro v; kernel_rfl
theorem ltC_17 : ltC 17 := by intro v; kernel_rfl
theorem ltC_18 : ltC 18 := by intro v; kernel_rfl
theorem ltC_19 : ltC 19 := by intro v; kernel_rfl
theorem ltC_20 : ltC 20 := by intro v; kernel_rfl
theorem ltC_21 : ltC 21 := by intro v; kernel_rfl
theorem ltC_22 : ltC 22 := by intro v; kernel_rfl
theorem ltC_23 : ltC 23 := by intro v; kernel_rfl
theorem ltC_24 : ltC 24 := by intro v; kernel_rfl
theorem ltC_25 : ltC 25 := by intro v; kernel_rfl
theorem ltC_26 : ltC 26 := by intro v; kernel_rfl
theorem ltC_27 : ltC 27 := by intro v; kernel_rfl
theorem ltC_28 : ltC 28 := by intro v; kernel_rfl
theorem ltC_29 : ltC 29 := by intro v; kernel_rfl
def allP (P : Nat → Prop) : Nat → Prop
  | 0 => True
  | n + 1 => P n ∧ allP P n
theorem allP_ok {P : Nat → Prop} : ∀ {n : Nat}, allP P n → ∀ i, i < n → P i
  | 0, _, i, hi => absurd hi (by omega)
  | n + 1, h, i, hi => by
    rcases (by omega : i = n ∨ i < n) with rfl | q
    · exact h.1
    · exact allP_ok h.2 i q
theorem itC_all : ∀ j, j < 30 → itC j := allP_ok (n := 30) ⟨itC_29, itC_28, itC_27, itC_26, itC_25, itC_24, itC_23, itC_22, itC_21, itC_20, itC_19, itC_18, itC_17, itC_16, itC_15, itC_14, itC_13, itC_12, itC_11, itC_10, itC_9, itC_8, itC_7, itC_6, itC_5, itC_4, itC_3, itC_2, itC_1, itC_0, trivial⟩
theorem ltC_all : ∀ j, j < 30 → ltC j := allP_ok (n := 30) ⟨ltC_29, ltC_28, ltC_27, ltC_26, ltC_25, ltC_24, ltC_23, ltC_22, ltC_21, ltC_20, ltC_19, ltC_18, ltC_17, ltC_16, ltC_15, ltC_14, ltC_13, ltC_12, ltC_11, ltC_10, ltC_9, ltC_8, ltC_7, ltC_6, ltC_5, ltC_4, ltC_3, ltC_2, ltC_1, ltC_0, trivial⟩
def upto31 : List Nat := [0, 1, 2, 3, 4, 5, 6, 7, 8, 9, 10, 11, 12, 13, 14, 15, 16, 17, 18, 19, 20, 21, 22, 23, 24, 25, 26, 27, 28, 29, 30]
theorem exC (kc : KCall) (k : Nat) (t : KT) (σ : AS) (cap : Nat) (kn : KT → AS → KR) (kx : Nat → KT → AS → KR) (kr : KT → AS → KR) :
    upto31.map (fun n => CK.run kc k (TC t n cap n) σ kn kx kr) = upto31.map (fun n => kx 0 ((TC t n cap n).put 9 (.bool false)) σ) := by kernel_rfl
def kEnd (v : Value) (_ : AS) : KR := some (v, (⟨.e, 0, []⟩ : AS))
noncomputable def retC (t : KT) (σ : AS) : KR := (kres E0 Tryz.f4.results.toList).run t σ fun l => kEnd (resValue l) σ
theorem enC (kc : KCall) (k : Nat) (t : KT) (cap : Nat) (m : Int) (X : List Value) (wf : Nat → Nat) (zf : Nat → Int) (sf : Nat → ByteArray) (ws : List Nat) (kx : Nat → KT → AS → KR) :
    upto31.map (fun n => (kcode E0 28 CR).run kc k ((TC t n cap n).put 9 (.bool false)) (SC m X (wantL wf) zf sf n ws) retC kx retC) = upto31.map (fun _ => kEnd (.agg ⟨wantL wf⟩) (VAbs.start 0)) := by kernel_rfl
noncomputable def C0 : Code := cA bC
noncomputable def C1 : Code := cA (cB bC)
noncomputable def C2 : Code := cA (cA (cB (cB bC)))
theorem shapeC : Tryz.f4.body = some (.seq C0 (.seq C1 (.seq (.seq C2 (.block 0 (.loop CL))) CR))) := by kernel_rfl
theorem preC (kc : KCall) (k n cap : Nat) (m : Int) (X : List Value) (zf : Nat → Int) (sf : Nat → ByteArray) (kn : KT → AS → KR) (kx : Nat → KT → AS → KR) (kr : KT → AS → KR) :
    (kcode E0 28 C0).run kc k (kt0.put 0 (.slice (some ⟨1, 0, none⟩) n cap)) (start3 m X 2) (fun t σ => (kcode E0 28 C1).run kc k t σ (fun t σ => (kcode E0 28 C2).run kc k t σ kn kx kr) kx kr) kx kr =
    kn (TC (kt0.put 0 (.slice (some ⟨1, 0, none⟩) n cap)) n cap 0) (SC m X (wantL fun _ => 0) zf sf 0 []) := by kernel_rfl
theorem startC (v : Value) (F : KT → KR) : kstart [v] 0 kt0 F = F (kt0.put 0 v) := by kernel_rfl
theorem slotC : kslot E0 4 = kfunc E0 Tryz.f4 := by kernel_rfl
theorem kloop_succ {b : KCode} {kc : KCall} {k0 : Nat} {kx : Nat → KT → AS → KR} {kr : KT → AS → KR} {m : Nat} {t : KT} {σ : AS} : kloop b kc k0 kx kr (m + 1) t σ = b.run kc k0 t σ (kloop b kc k0 kx kr m) kx kr := rfl
def cnt (zf : Nat → Int) : Nat → Nat → Nat
  | 0, _ => 0
  | j + 1, k => cnt zf j k + (if zf j = Int.ofNat k ∧ 1 ≤ k then 1 else 0)
theorem cnt_le (zf : Nat → Int) (k : Nat) : ∀ j, cnt zf j k ≤ j
  | 0 => Nat.le_refl _
  | j + 1 => by
    have := cnt_le zf k j
    simp only [cnt]
    split <;> omega
theorem zfo_self (j : Nat) (zf : Nat → Int) : zfo j (zf j) zf = zf := by
  funext x; unfold zfo
  split
  · rename_i h; rw [h]
  · rfl
theorem class_of (z : Int) : ∃ c d, c ∈ classes ∧ zz c d = z := by
  cases z with
  | negSucc d => exact ⟨0, d, by decide, rfl⟩
  | ofNat n =>
    rcases Nat.lt_or_ge n 12 with h | h
    · refine ⟨n + 1, 0, ?_, ?_⟩
      · simp only [classes, List.mem_cons]; omega
      · have : n = 0 ∨ n = 1 ∨ n = 2 ∨ n = 3 ∨ n = 4 ∨ n = 5 ∨ n = 6 ∨ n = 7 ∨ n = 8 ∨ n = 9 ∨ n = 10 ∨ n = 11 := by omega
        rcases this with rfl | rfl | rfl | rfl | rfl | rfl | rfl | rfl | rfl | rfl | rfl | rfl <;> rfl
    · obtain ⟨d, rfl⟩ : ∃ d, n = d + 12 := ⟨n - 12, by omega⟩
      exact ⟨13, d, by decide, rfl⟩
theorem wrap_small {n : Nat} (h : n < 1000) : kwrapN .i64 (Nat.add n 1) = Int.ofNat (n + 1) := by
  rw [kwrapN_eq]
  exact ktop_wrap (by show n + 1 < 9223372036854775808; omega)
theorem wantR_eq {zf : Nat → Int} {j c d : Nat} (hj : j < 30) (hc : c ∈ classes) (h : zz c d = zf j) : wantR c (cnt zf j) = wantL (cnt zf (j + 1)) := by
  have hw : ∀ x, kwrapN .i64 (Nat.add (cnt zf j x) 1) = Int.ofNat (cnt zf j x + 1) := fun x => wrap_small (by have := cnt_le zf x j; omega)
  have hd : ∀ x : Int, x < 12 → ((d : Int) + 12 = x) = False := fun x hx => by simp only [eq_iff_iff, iff_false]; omega
  simp only [classes, List.mem_cons, List.not_mem_nil, or_false] at hc
  rcases hc with rfl | rfl | rfl | rfl | rfl | rfl | rfl | rfl | rfl | rfl | rfl | rfl | rfl | rfl
  all_goals
    simp only [zz] at h
    simp only [wantR, wantL, nC, cnt, ← h, hw, List.set]
    simp [hd]
theorem TC_live {t t' : KT} {n cap j : Nat} (h : liveC t' = liveC (TC t n cap j)) : TC t' n cap j = t' := by
  have e : liveC (TC t n cap j) = [.pointer (some ⟨2, 0, none⟩), .pointer (some ⟨3, 0, none⟩), .slice (some ⟨1, 0, none⟩) n cap, .int .i64 (Int.ofNat n), .int .i64 (Int.ofNat j)] := by kernel_rfl
  rw [e] at h
  simp only [liveC, List.cons.injEq, and_true] at h
  obtain ⟨h2, h3, h6, h7, h8⟩ := h
  unfold TC
  rw [KT.put_eq h2, KT.put_eq h3, KT.put_eq h6, KT.put_eq h7, KT.put_eq h8]
theorem mem_upto31 {n : Nat} (h : n ≤ 30) : n ∈ upto31 := by
  simp only [upto31, List.mem_cons]; omega
theorem loopC (m : Int) (cap n : Nat) (hn : n ≤ 30) (X : List Value) (zf : Nat → Int) (sf : Nat → ByteArray) (hX : ∀ j, j < n → ∃ R, X = fl zf sf (j + 1) R) (kc : KCall) (k : Nat) (KX : Nat → KT → AS → KR) (kx : Nat → KT → AS → KR)
    (hKX : ∀ t σ, KX 0 t σ = (kcode E0 28 CR).run kc k t σ retC kx retC) :
    ∀ (f j : Nat) (t : KT) (ws : List Nat), j ≤ n → n < j + f → TC t n cap j = t → kloop CK kc k KX retC f t (SC m X (wantL (cnt zf j)) zf sf j ws) = kEnd (.agg ⟨wantL (cnt zf n)⟩) (VAbs.start 0) := by
  intro f
  induction f with
  | zero => intro j t ws h1 h2; omega
  | succ f ih =>
    intro j t ws h1 h2 ht
    rw [kloop_succ]
    rcases Nat.lt_or_ge j n with hlt | hge
    · obtain ⟨d', rfl⟩ : ∃ d', n = d' + (j + 1) := ⟨n - (j + 1), by omega⟩
      obtain ⟨R, rfl⟩ := hX j hlt
      obtain ⟨c, d, hc, hcd⟩ := class_of (zf j)
      have hj : j < 30 := by omega
      have q1 := List.map_inj_left.1 (itC_all j hj ⟨kc, k, t, m, zf, sf, cnt zf j, ws, R, d, d', cap⟩ (kloop CK kc k KX retC f) KX retC) c hc
      have q2 := List.map_inj_left.1 (ltC_all j hj ⟨kc, k, t, m, zf, sf, cnt zf j, ws, R, d, d', cap⟩) c hc
      simp only [lhsC, rhsC, sC, hcd, zfo_self] at q1 q2
      rw [ht] at q1 q2
      rw [q1, wantR_eq hj hc hcd]
      exact ih (j + 1) _ _ hlt (by omega) (TC_live q2)
    · obtain rfl : j = n := by omega
      have q1 := List.map_inj_left.1 (exC kc k t (SC m X (wantL (cnt zf j)) zf sf j ws) cap (kloop CK kc k KX retC f) KX retC) j (mem_upto31 hn)
      rw [ht] at q1
      rw [q1, hKX]
      have q2 := List.map_inj_left.1 (enC kc k t cap m X (cnt zf j) zf sf ws kx) j (mem_upto31 hn)
      rw [ht] at q2
      exact q2
theorem counts_k (m : Int) (cap n : Nat) (hn : n ≤ 30) (X : List Value) (zf : Nat → Int) (sf : Nat → ByteArray) (hX : ∀ j, j < n → ∃ R, X = fl zf sf (j + 1) R) :
    kcall E0 40 4 [.slice (some ⟨1, 0, none⟩) n cap] (start3 m X 2) kEnd = some (.agg ⟨wantL (cnt zf n)⟩, (⟨.e, 0, []⟩ : AS)) := by
  have h0 : kcall E0 40 4 [.slice (some ⟨1, 0, none⟩) n cap] (start3 m X 2) kEnd = (kslot E0 4).run (kcall E0 39) 40 [.slice (some ⟨1, 0, none⟩) n cap] (start3 m X 2) kEnd := rfl
  rw [h0, slotC]
  simp only [kfunc, shapeC, startC, kc_seq, kc_block, kc_loop]
  have hnt : Tryz.f4.ntmps = 28 := rfl
  simp only [hnt]
  have hp := preC (kcall E0 39) 40 n cap m X zf sf
  rw [hp]
  refine (loopC m cap n hn X zf sf hX (kcall E0 39) 40 _ (fun _ _ _ => none) ?_ 40 0 _ _ (by omega) (by omega) ?_).trans rfl
  · intro t σ; rfl
  · exact TC_live (t := kt0.put 0 (.slice (some ⟨1, 0, none⟩) n cap)) rfl
/-! ### Counts, taken whole -/
def zfOf (c : List Value) (i : Nat) : Int := match c[2 * i]? with
  | some (.int _ z) => z
  | _ => 0
def sfOf (c : List Value) (i : Nat) : ByteArray := match c[2 * i + 1]? with
  | some (.string s) => s
  | _ => ⟨#[]⟩
def isF : Nat → List Value → Bool
  | 0, _ => true
  | n + 1, .int .i64 _ :: .string _ :: r => isF n r
  | _, _ => false
theorem fl_cons (zf : Nat → Int) (sf : Nat → ByteArray) : ∀ (i : Nat) (R : List Value), fl zf sf (i + 1) R = .int .i64 (zf 0) :: .string (sf 0) :: fl (fun x => zf (x + 1)) (fun x => sf (x + 1)) i R
  | 0, R => rfl
  | i + 1, R => by
    show fl zf sf (i + 1) (.int .i64 (zf (i + 1)) :: .string (sf (i + 1)) :: R) = _
    rw [fl_cons zf sf i]
    rfl
theorem isF_fl : ∀ (n : Nat) (c : List Value), isF n c = true → ∃ R, c = fl (zfOf c) (sfOf c) n R
  | 0, c, _ => ⟨c, rfl⟩
  | n + 1, c, h => by
    match c, h with
    | .int .i64 z :: .string s :: r, h =>
      obtain ⟨R, hR⟩ := isF_fl n r h
      refine ⟨R, ?_⟩
      rw [fl_cons]
      have e1 : (fun x => zfOf (.int .i64 z :: .string s :: r) (x + 1)) = zfOf r := by
        funext x
        unfold zfOf
        have : 2 * (x + 1) = 2 * x + 2 := by omega
        rw [this]; rfl
      have e2 : (fun x => sfOf (.int .i64 z :: .string s :: r) (x + 1)) = sfOf r := by
        funext x
        unfold sfOf
        have : 2 * (x + 1) + 1 = 2 * x + 1 + 2 := by omega
        rw [this]; rfl
      rw [e1, e2, ← hR]
      rfl
theorem fl_pre (zf : Nat → Int) (sf : Nat → ByteArray) (R : List Value) : ∀ (n j : Nat), j < n → ∃ R', fl zf sf n R = fl zf sf (j + 1) R' := by
  intro n
  induction n generalizing R with
  | zero => intro j h; omega
  | succ n ih =>
    intro j h
    rcases (by omega : j = n ∨ j < n) with rfl | q
    · exact ⟨R, rfl⟩
    · exact ih _ j q
def fCounts (len cap : Nat) (c : List Value) : Option Value := cond (isF len c && Nat.ble len 30) (some (.agg ⟨wantL (cnt (zfOf c) len)⟩)) none
def fNone : List Value → Option Value
  | [.slice none 0 0] => some (.agg ⟨wantL fun _ => 0⟩)
  | _ => none
theorem none_run (m : Int) : (acall E0 40 4 [.slice none 0 0] (VAbs.start m)).map (·.1) = some (.agg ⟨wantL fun _ => 0⟩) := kval_ok (by kernel_rfl)
theorem wantL_closed (wf : Nat → Nat) : closed (.agg ⟨wantL wf⟩) = true := rfl
theorem counts_ok (prims : Nat → Option (List Value → AS → Option (Value × AS))) : PrimOk (Env.of Tryz.prog (oneGlob 0) prims) 4 (primOr (pFun3 2 fCounts) (pFun fNone)) := by
  refine primOr_ok ?_ ?_
  · refine fun_ok3 ok0 rfl ?_ rfl rfl
    intro len cap c v hl hcl h
    unfold fCounts at h
    cases hb : isF len c && Nat.ble len 30 with
    | false => rw [hb] at h; cases h
    | true =>
      rw [hb] at h; cases h
      rw [Bool.and_eq_true] at hb
      obtain ⟨R, hR⟩ := isF_fl len c hb.1
      refine ⟨wantL_closed _, fun m => ⟨40, ?_⟩⟩
      exact kcall_val (r := (_, _)) (counts_k m cap len (Nat.le_of_ble_eq_true hb.2) c (zfOf c) (sfOf c) (fun j hj => by
        obtain ⟨R', h'⟩ := fl_pre (zfOf c) (sfOf c) R len j hj
        exact ⟨R', hR.trans h'⟩))
  · refine fun_ok ok0 rfl ?_ rfl rfl
    intro args v hcl h
    unfold fNone at h
    split at h
    · cases h; exact ⟨rfl, fun m => ⟨40, none_run m⟩⟩
    · cases h
noncomputable def prims1 : Nat → Option (List Value → AS → Option (Value × AS))
  | 5 => some (pClosed (.bool true))
  | 4 => some (primOr (pFun3 2 fCounts) (pFun fNone))
  | n => prims0 n
noncomputable def E1 : Env := Env.of Tryz.prog (oneGlob 0) prims1
theorem ok1 : ProgOk E1 := by
  refine progOk_of mixed allOk ?_
  intro n g h
  unfold prims1 at h
  split at h
  · cases h; exact ⟨closed_ok ok0 rfl rfl awake rfl rfl, _, Tryz.func5, by kernel_rfl⟩
  · cases h; exact ⟨counts_ok prims1, _, Tryz.func4, by kernel_rfl⟩
  · exact prims0_ok prims1 n g h
/-! ### The law's own loop -/
noncomputable def bA : Code := (Tryz.f3.body).getD .skip
noncomputable def AL : Code := cA (cA (cB (cA (cB (cB (cB bA))))))
noncomputable def AR : Code := cB (cB (cB (cB bA)))
noncomputable def AK : KCode := kcode E1 46 AL
noncomputable def hA (m : Int) (X w : List Value) (zf : Nat → Int) (sf : Nat → ByteArray) : Nat → Tr AObj
  | 0 => ((((Tr.e : Tr AObj).set 0 (.cells [.int .i64 m] true none)).set 1 (.cells X true (some 2))).set 2 (.cells w false none))
  | i + 1 => (((hA m X w zf sf i).set (3 + 3 * i) (box (zf i) (sf i))).set (4 + 3 * i) (box (zf i) (sf i))).set (5 + 3 * i) .dead
/-- With the row that stands now. -/
noncomputable def hB (m : Int) (X w : List Value) (zf : Nat → Int) (sf : Nat → ByteArray) : Nat → Tr AObj
  | 0 => hA m X w zf sf 0
  | i + 1 => (hA m X w zf sf (i + 1)).set (5 + 3 * i) (.cells (fl zf sf (i + 1) []) false (some 2))
noncomputable def SA (m : Int) (X w : List Value) (zf : Nat → Int) (sf : Nat → ByteArray) (i : Nat) (ws : List Nat) : AS := ⟨hB m X w zf sf i, 3 + 3 * i, ws⟩
def oV : Nat → Value
  | 0 => .slice none 0 0
  | i + 1 => .slice (some ⟨5 + 3 * i, 0, none⟩) (i + 1) (i + 1)
def TA (t : KT) (n cap i : Nat) : KT := ((((t.put 3 (oV i)).put 4 (.pointer (some ⟨2, 0, none⟩))).put 7 (.slice (some ⟨1, 0, none⟩) n cap)).put 8 (.int .i64 (Int.ofNat n))).put 9 (.int .i64 (Int.ofNat i))
noncomputable def runA (kc : KCall) (k : Nat) (t : KT) (σ : AS) : KR := AK.run kc k t σ (kOut 46) (fun _ => kNo) kNo
noncomputable def sA (v : VarsC) (j c : Nat) : AS := SA v.m (fl (zfo j (zz c v.d) v.zf) v.sf (j + 1) v.R) (wantL v.wf) (zfo j (zz c v.d) v.zf) v.sf j v.ws
noncomputable def lhsA (v : VarsC) (kn : KT → AS → KR) (kx : Nat → KT → AS → KR) (kr : KT → AS → KR) (j c : Nat) : KR := AK.run v.kc v.k (TA v.t (v.d' + (j + 1)) v.cap j) (sA v j c) kn kx kr
noncomputable def rhsA (v : VarsC) (kn : KT → AS → KR) (j c : Nat) : KR :=
  kn (toutK (TA v.t (v.d' + (j + 1)) v.cap j) (runA v.kc v.k (TA v.t (v.d' + (j + 1)) v.cap j) (sA v j c)))
    (SA v.m (fl (zfo j (zz c v.d) v.zf) v.sf (j + 1) v.R) (wantR c v.wf) (zfo j (zz c v.d) v.zf) v.sf (j + 1) (soutK (runA v.kc v.k (TA v.t (v.d' + (j + 1)) v.cap j) (sA v j c))))
def itA (j : Nat) : Prop := ∀ (v : VarsC) (kn : KT → AS → KR) (kx : Nat → KT → AS → KR) (kr : KT → AS → KR), classes.map (lhsA v kn kx kr j) = classes.map (rhsA v kn j)
def liveA (t : KT) : List Value := [t.get 3, t.get 4, t.get 7, t.get 8, t.get 9]
def ltA (j : Nat) : Prop := ∀ (v : VarsC), classes.map (fun c => liveA (toutK (TA v.t (v.d' + (j + 1)) v.cap j) (runA v.kc v.k (TA v.t (v.d' + (j + 1)) v.cap j) (sA v j c)))) = classes.map fun _ => liveA (TA v.t (v.d' + (j + 1)) v.cap (j + 1))
theorem itA_0 : itA 0 := by intro v kn kx kr; kernel_rfl
theorem itA_1 : itA 1 := by intro v kn kx kr; kernel_rfl
theorem itA_2 : itA 2 := by intro v kn kx kr; kernel_rfl
theorem itA_3 : itA 3 := by intro v kn kx kr; kernel_rfl
theorem itA_4 : itA 4 := by intro v kn kx kr; kernel_rfl
theorem itA_5 : itA 5 := by intro v kn kx kr; kernel_rfl
theorem itA_6 : itA 6 := by intro v kn kx kr; kernel_rfl
theorem itA_7 : itA 7 := by intro v kn kx kr; kernel_rfl
theorem itA_8 : itA 8 := by intro v kn kx kr; kernel_rfl
theorem itA_9 : itA 9 := by intro v kn kx kr; kernel_rfl
theorem itA_10 : itA 10 := by intro v kn kx kr; kernel_rfl
theorem itA_11 : itA 11 := by intro v kn kx kr; kernel_rfl
theorem itA_12 : itA 12 := by intro v kn kx kr; kernel_rfl
theorem itA_13 : itA 13 := by intro v kn kx kr; kernel_rfl
theorem itA_14 : itA 14 := by intro v kn kx kr; kernel_rfl
theorem itA_15 : itA 15 := by intro v kn kx kr; kernel_rfl
theorem itA_16 : itA 16 := by intro v kn kx kr; kernel_rfl
theorem itA_17 : itA 17 := by intro v kn kx kr; kernel_rfl
theorem itA_18 : itA 18 := by intro v kn kx kr; kernel_rfl
theorem itA_19 : itA 19 := by intro v kn kx kr; kernel_rfl
theorem itA_20 : itA 20 := by intro v kn kx kr; kernel_rfl
theorem itA_21 : itA 21 := by intro v kn kx kr; kernel_rfl
theorem itA_22 : itA 22 := by intro v kn kx kr; kernel_rfl
theorem itA_23 : itA 23 := by intro v kn kx kr; kernel_rfl
theorem itA_24 : itA 24 := by intro v kn kx kr; kernel_rfl
theorem itA_25 : itA 25 := by intro v kn kx kr; kernel_rfl
theorem itA_26 : itA 26 := by intro v kn kx kr; kernel_rfl
theorem itA_27 : itA 27 := by intro v kn kx kr; kernel_rfl
theorem itA_28 : itA 28 := by intro v kn kx kr; kernel_rfl
theorem itA_29 : itA 29 := by intro v kn kx kr; kernel_rfl
theorem ltA_0 : ltA 0 := by intro v; kernel_rfl
theorem ltA_1 : ltA 1 := by intro v; kernel_rfl
theorem ltA_2 : ltA 2 := by intro v; kernel_rfl
theorem ltA_3 : ltA 3 := by intro v; kernel_rfl
theorem ltA_4 : ltA 4 := by intro v; kernel_rfl
theorem ltA_5 : ltA 5 := by intro v; kernel_rfl
theorem ltA_6 : ltA 6 := by intro v; kernel_rfl
theorem ltA_7 : ltA 7 := by intro v; kernel_rfl
theorem ltA_8 : ltA 8 := by intro v; kernel_rfl
theorem ltA_9 : ltA 9 := by intro v; kernel_rfl
theorem ltA_10 : ltA 10 := by intro v; kernel_rfl
theorem ltA_11 : ltA 11 := by intro v; kernel_rfl
theorem ltA_12 : ltA 12 := by intro v; kernel_rfl
theorem ltA_13 : ltA 13 := by intro v; kernel_rfl
theorem ltA_14 : ltA 14 := by intro v; kernel_rfl
theorem ltA_15 : ltA 15 := by intro v; kernel_rfl
theorem ltA_16 : ltA 16 := by intro v; kernel_rfl
theorem ltA_17 : ltA 17 := by intro v; kernel_rfl
theorem ltA_18 : ltA 18 := by intro v; kernel_rfl
theorem ltA_19 : ltA 19 := by intro v; kernel_rfl
theorem ltA_20 : ltA 20 := by intro v; kernel_rfl
theorem ltA_21 : ltA 21 := by intro v; kernel_rfl
theorem ltA_22 : ltA 22 := by intro v; kernel_rfl
theorem ltA_23 : ltA 23 := by intro v; kernel_rfl
theorem ltA_24 : ltA 24 := by intro v; kernel_rfl
theorem ltA_25 : ltA 25 := by intro v; kernel_rfl
theorem ltA_26 : ltA 26 := by intro v; kernel_rfl
theorem ltA_27 : ltA 27 := by intro v; kernel_rfl
theorem ltA_28 : ltA 28 := by intro v; kernel_rfl
theorem ltA_29 : ltA 29 := by intro v; kernel_rfl
theorem itA_all : ∀ j, j < 30 → itA j := allP_ok (n := 30) ⟨itA_29, itA_28, itA_27, itA_26, itA_25, itA_24, itA_23, itA_22, itA_21, itA_20, itA_19, itA_18, itA_17, itA_16, itA_15, itA_14, itA_13, itA_12, itA_11, itA_10, itA_9, itA_8, itA_7, itA_6, itA_5, itA_4, itA_3, itA_2, itA_1, itA_0, trivial⟩
theorem ltA_all : ∀ j, j < 30 → ltA j := allP_ok (n := 30) ⟨ltA_29, ltA_28, ltA_27, ltA_26, ltA_25, ltA_24, ltA_23, ltA_22, ltA_21, ltA_20, ltA_19, ltA_18, ltA_17, ltA_16, ltA_15, ltA_14, ltA_13, ltA_12, ltA_11, ltA_10, ltA_9, ltA_8, ltA_7, ltA_6, ltA_5, ltA_4, ltA_3, ltA_2, ltA_1, ltA_0, trivial⟩
def exA_t (t : KT) (n cap : Nat) : KT := (TA t n cap n).put 10 (.bool false)
theorem exA (kc : KCall) (k : Nat) (t : KT) (σ : AS) (cap : Nat) (kn : KT → AS → KR) (kx : Nat → KT → AS → KR) (kr : KT → AS → KR) :
    upto31.map (fun n => AK.run kc k (TA t n cap n) σ kn kx kr) = upto31.map (fun n => kx 0 (exA_t t n cap) σ) := by kernel_rfl
/-- A row of more: the thirty-first is looked at, and left. -/
noncomputable def SX (m : Int) (X w : List Value) (zf : Nat → Int) (sf : Nat → ByteArray) (ws : List Nat) : AS := ⟨(hB m X w zf sf 30).set 93 (box (zf 30) (sf 30)), 94, ws⟩
noncomputable def runX (kc : KCall) (k : Nat) (t : KT) (σ : AS) : KR := AK.run kc k t σ kNo (fun _ => kOut 46) kNo
noncomputable def sX (m : Int) (zf : Nat → Int) (sf : Nat → ByteArray) (R : List Value) (w : List Value) (ws : List Nat) : AS := SA m (fl zf sf 31 R) w zf sf 30 ws
theorem exX (kc : KCall) (k : Nat) (t : KT) (m : Int) (zf : Nat → Int) (sf : Nat → ByteArray) (R : List Value) (wf : Nat → Nat) (ws : List Nat) (d' cap : Nat) (kn : KT → AS → KR) (kx : Nat → KT → AS → KR) (kr : KT → AS → KR) :
    AK.run kc k (TA t (d' + 31) cap 30) (sX m zf sf R (wantL wf) ws) kn kx kr =
    kx 0 (toutK (TA t (d' + 31) cap 30) (runX kc k (TA t (d' + 31) cap 30) (sX m zf sf R (wantL wf) ws))) (SX m (fl zf sf 31 R) (wantL wf) zf sf (soutK (runX kc k (TA t (d' + 31) cap 30) (sX m zf sf R (wantL wf) ws)))) := by kernel_rfl
theorem exX_live (kc : KCall) (k : Nat) (t : KT) (m : Int) (zf : Nat → Int) (sf : Nat → ByteArray) (R : List Value) (wf : Nat → Nat) (ws : List Nat) (d' cap : Nat) :
    [(toutK (TA t (d' + 31) cap 30) (runX kc k (TA t (d' + 31) cap 30) (sX m zf sf R (wantL wf) ws))).get 3, (toutK (TA t (d' + 31) cap 30) (runX kc k (TA t (d' + 31) cap 30) (sX m zf sf R (wantL wf) ws))).get 4] = [oV 30, .pointer (some ⟨2, 0, none⟩)] := by kernel_rfl
def opsOf : Code → Array Oper
  | .region _ o _ => o
  | _ => #[]
noncomputable def ops11 : Array Oper := opsOf (cA AR)
noncomputable def SQ (m : Int) (X : List Value) (zf : Nat → Int) (sf : Nat → ByteArray) (ws : List Nat) (q : Nat) : AS := match q with
  | 31 => SX m X (wantL (cnt zf 30)) zf sf ws
  | q => SA m X (wantL (cnt zf q)) zf sf q ws
def nQ (q : Nat) : Nat := match q with
  | 31 => 30
  | q => q
def TD (t : KT) (q : Nat) : KT := (t.put 3 (oV (nQ q))).put 4 (.pointer (some ⟨2, 0, none⟩))
def upto32 : List Nat := [0, 1, 2, 3, 4, 5, 6, 7, 8, 9, 10, 11, 12, 13, 14, 15, 16, 17, 18, 19, 20, 21, 22, 23, 24, 25, 26, 27, 28, 29, 30, 31]
def aggQ (zf : Nat → Int) (q : Nat) : Value := .agg ⟨wantL (cnt zf (nQ q))⟩
noncomputable def retA (t : KT) (σ : AS) : KR := (kres E1 Tryz.f3.results.toList).run t σ fun l => kEnd (resValue l) σ
noncomputable def fin11 (kc : KCall) (k : Nat) (kx : Nat → KT → AS → KR) (t : KT) (σ : AS) (fs : List Foot) : KR := onTrue (noClash fs.reverse (pairsOf ops11)) ((kcode E1 46 (cB AR)).run kc k t σ retA kx retA)
theorem ar11 (kc : KCall) (k : Nat) (t : KT) (σ : AS) (kx : Nat → KT → AS → KR) : (kcode E1 46 AR).run kc k t σ retA kx retA = (kreg E1 46 ops11 [] (ops11.toList.take 3)).run kc t σ [] (fun t σ fs => (kreg E1 46 ops11 [] (ops11.toList.drop 3)).run kc t σ fs (fin11 kc k kx)) := by kernel_rfl
theorem f11 (kk : Nat) (t : KT) (m : Int) (X : List Value) (zf : Nat → Int) (sf : Nat → ByteArray) (ws : List Nat) (K : KT → AS → List Foot → KR) :
    upto32.map (fun q => (kreg E1 46 ops11 [] (ops11.toList.take 3)).run (kcall E1 (kk + 1)) (TD t q) (SQ m X zf sf ws q) [] K) =
    upto32.map (fun q => K ((((TD t q).put 39 (oV (nQ q))).put 40 (aggQ zf q)).put 41 (aggQ zf q)) (SQ m X zf sf ws q) [.rd 2, .all [], .pure]) := by kernel_rfl
theorem g11 (kc : KCall) (t : KT) (σ : AS) (fs : List Foot) (K : KT → AS → List Foot → KR) : (kreg E1 46 ops11 [] (ops11.toList.drop 3)).run kc t σ fs K =
    (kbin E1 .eql 24 (.tmp 40) (.tmp 41)).run (t.get 40) (t.get 41) (fun v => (kreg E1 46 ops11 [] (ops11.toList.drop 4)).run kc (t.put 42 v) σ (.pure :: fs) K) := by kernel_rfl
theorem h11 (kk k : Nat) (t : KT) (m : Int) (X : List Value) (zf : Nat → Int) (sf : Nat → ByteArray) (ws : List Nat) (kx : Nat → KT → AS → KR) :
    upto32.map (fun q => (kreg E1 46 ops11 [] (ops11.toList.drop 4)).run (kcall E1 (kk + 1)) (t.put 42 (.bool true)) (SQ m X zf sf ws q) [.pure, .rd 2, .all [], .pure] (fin11 (kcall E1 (kk + 1)) k kx)) =
    upto32.map (fun _ => kEnd (.bool true) (VAbs.start 0)) := by kernel_rfl
theorem eq11 (wf : Nat → Nat) (K : Value → KR) : (kbin E1 .eql 24 (.tmp 40) (.tmp 41)).run (.agg ⟨wantL wf⟩) (.agg ⟨wantL wf⟩) K = K (.bool true) := by
  obtain ⟨i, hi, hs⟩ := ok1.toEnvOk.size 3 1 (by kernel_rfl)
  have h := abin_eqArr (E := E1) (t := 24) (e := 3) (n := 12) (k := .i64) Tryz.underlying24 Tryz.underlying3 hi hs (by kernel_rfl) (fun a b => by kernel_rfl) [Int.ofNat (wf 0), Int.ofNat (wf 1), Int.ofNat (wf 2), Int.ofNat (wf 3), Int.ofNat (wf 4), Int.ofNat (wf 5), Int.ofNat (wf 6), Int.ofNat (wf 7), Int.ofNat (wf 8), Int.ofNat (wf 9), Int.ofNat (wf 10), Int.ofNat (wf 11)] rfl (.tmp 40) (.tmp 41)
  have h' : abin E1 .eql 24 (.tmp 40) (.tmp 41) (.agg ⟨wantL wf⟩) (.agg ⟨wantL wf⟩) = some (.bool true) := h
  show onSome (abin E1 .eql 24 (.tmp 40) (.tmp 41) (.agg ⟨wantL wf⟩) (.agg ⟨wantL wf⟩)) K = _
  rw [h']; rfl
theorem mem_upto32 {q : Nat} (h : q ≤ 31) : q ∈ upto32 := by
  simp only [upto32, List.mem_cons]; omega
theorem restA (kk k : Nat) (t : KT) (m : Int) (X : List Value) (zf : Nat → Int) (sf : Nat → ByteArray) (ws : List Nat) (kx : Nat → KT → AS → KR) (q : Nat) (hq : q ≤ 31) (ht : TD t q = t) :
    (kcode E1 46 AR).run (kcall E1 (kk + 1)) k t (SQ m X zf sf ws q) retA kx retA = kEnd (.bool true) (VAbs.start 0) := by
  rw [ar11]
  have h1 := List.map_inj_left.1 (f11 kk t m X zf sf ws (fun t σ fs => (kreg E1 46 ops11 [] (ops11.toList.drop 3)).run (kcall E1 (kk + 1)) t σ fs (fin11 (kcall E1 (kk + 1)) k kx))) q (mem_upto32 hq)
  rw [ht] at h1
  rw [h1, g11]
  have e41 : (((t.put 39 (oV (nQ q))).put 40 (aggQ zf q)).put 41 (aggQ zf q)).get 41 = aggQ zf q := KT.get_put_eq _ _ (by decide)
  have e40 : (((t.put 39 (oV (nQ q))).put 40 (aggQ zf q)).put 41 (aggQ zf q)).get 40 = aggQ zf q := by
    rw [KT.get_put_ne _ _ (by decide) (by decide) (by decide), KT.get_put_eq _ _ (by decide)]
  rw [e40, e41]
  unfold aggQ
  rw [eq11]
  exact List.map_inj_left.1 (h11 kk k _ m X zf sf ws kx) q (mem_upto32 hq)
theorem SQ_le {m : Int} {X : List Value} {zf : Nat → Int} {sf : Nat → ByteArray} {ws : List Nat} {q : Nat} (h : q ≤ 30) : SQ m X zf sf ws q = SA m X (wantL (cnt zf q)) zf sf q ws := by
  unfold SQ
  split
  · omega
  · rfl
theorem nQ_le {q : Nat} (h : q ≤ 30) : nQ q = q := by
  unfold nQ
  split
  · omega
  · rfl
theorem TA_live {t t' : KT} {n cap j : Nat} (h : liveA t' = liveA (TA t n cap j)) : TA t' n cap j = t' := by
  have e : liveA (TA t n cap j) = [oV j, .pointer (some ⟨2, 0, none⟩), .slice (some ⟨1, 0, none⟩) n cap, .int .i64 (Int.ofNat n), .int .i64 (Int.ofNat j)] := by kernel_rfl
  rw [e] at h
  simp only [liveA, List.cons.injEq, and_true] at h
  obtain ⟨h2, h3, h6, h7, h8⟩ := h
  unfold TA
  rw [KT.put_eq h2, KT.put_eq h3, KT.put_eq h6, KT.put_eq h7, KT.put_eq h8]
theorem TA_get {t : KT} {n cap j : Nat} (h : TA t n cap j = t) : t.get 3 = oV j ∧ t.get 4 = .pointer (some ⟨2, 0, none⟩) := by
  have e : [(TA t n cap j).get 3, (TA t n cap j).get 4] = [oV j, .pointer (some ⟨2, 0, none⟩)] := by kernel_rfl
  rw [h] at e
  simp only [List.cons.injEq, and_true] at e
  exact e
theorem TD_of {t : KT} {q : Nat} (h3 : t.get 3 = oV (nQ q)) (h4 : t.get 4 = .pointer (some ⟨2, 0, none⟩)) : TD t q = t := by
  unfold TD
  rw [KT.put_eq h3, KT.put_eq h4]
theorem loopA (m : Int) (cap n : Nat) (X : List Value) (zf : Nat → Int) (sf : Nat → ByteArray) (hX : ∀ j, j < n → j ≤ 30 → ∃ R, X = fl zf sf (j + 1) R) (kk k : Nat) (KX : Nat → KT → AS → KR) (kx : Nat → KT → AS → KR)
    (hKX : ∀ t σ, KX 0 t σ = (kcode E1 46 AR).run (kcall E1 (kk + 1)) k t σ retA kx retA) :
    ∀ (f i : Nat) (t : KT) (ws : List Nat), i ≤ n → i ≤ 30 → 31 < i + f → TA t n cap i = t → kloop AK (kcall E1 (kk + 1)) k KX retA f t (SA m X (wantL (cnt zf i)) zf sf i ws) = kEnd (.bool true) (VAbs.start 0) := by
  intro f
  induction f with
  | zero => intro i t ws h1 h2 h3; omega
  | succ f ih =>
    intro i t ws h1 h2 h3 ht
    obtain ⟨g3, g4⟩ := TA_get ht
    rw [kloop_succ]
    rcases Nat.lt_or_ge i n with hlt | hge
    · obtain ⟨R, rfl⟩ := hX i hlt h2
      rcases Nat.lt_or_ge i 30 with hi | hi
      · obtain ⟨d', rfl⟩ : ∃ d', n = d' + (i + 1) := ⟨n - (i + 1), by omega⟩
        obtain ⟨c, d, hc, hcd⟩ := class_of (zf i)
        have q1 := List.map_inj_left.1 (itA_all i hi ⟨kcall E1 (kk + 1), k, t, m, zf, sf, cnt zf i, ws, R, d, d', cap⟩ (kloop AK (kcall E1 (kk + 1)) k KX retA f) KX retA) c hc
        have q2 := List.map_inj_left.1 (ltA_all i hi ⟨kcall E1 (kk + 1), k, t, m, zf, sf, cnt zf i, ws, R, d, d', cap⟩) c hc
        simp only [lhsA, rhsA, sA, hcd, zfo_self] at q1 q2
        rw [ht] at q1 q2
        rw [q1, wantR_eq hi hc hcd]
        exact ih (i + 1) _ _ hlt (by omega) (by omega) (TA_live q2)
      · obtain rfl : i = 30 := by omega
        obtain ⟨d', rfl⟩ : ∃ d', n = d' + 31 := ⟨n - 31, by omega⟩
        have q1 := exX (kcall E1 (kk + 1)) k t m zf sf R (cnt zf 30) ws d' cap (kloop AK (kcall E1 (kk + 1)) k KX retA f) KX retA
        have q2 := exX_live (kcall E1 (kk + 1)) k t m zf sf R (cnt zf 30) ws d' cap
        simp only [sX] at q1 q2
        rw [ht] at q1 q2
        simp only [List.cons.injEq, and_true] at q2
        rw [q1, hKX]
        exact restA kk k _ m _ zf sf _ kx 31 (by omega) (TD_of q2.1 q2.2)
    · obtain rfl : i = n := by omega
      have q1 := List.map_inj_left.1 (exA (kcall E1 (kk + 1)) k t (SA m X (wantL (cnt zf i)) zf sf i ws) cap (kloop AK (kcall E1 (kk + 1)) k KX retA f) KX retA) i (mem_upto31 h2)
      rw [exA_t, ht] at q1
      rw [q1, hKX, ← SQ_le h2]
      refine restA kk k _ m X zf sf ws kx i (by omega) (TD_of ?_ ?_)
      · rw [nQ_le h2, KT.get_put_ne _ _ (by decide) (by decide) (by decide)]; exact g3
      · rw [KT.get_put_ne _ _ (by decide) (by decide) (by decide)]; exact g4
noncomputable def A0 : Code := cA bA
noncomputable def A1 : Code := cA (cB bA)
noncomputable def A2 : Code := cA (cB (cB bA))
noncomputable def A3 : Code := cA (cA (cB (cB (cB bA))))
theorem shapeA : Tryz.f3.body = some (.seq A0 (.seq A1 (.seq A2 (.seq (.seq A3 (.block 0 (.loop AL))) AR)))) := by kernel_rfl
theorem preA (kc : KCall) (k n cap : Nat) (m : Int) (X : List Value) (zf : Nat → Int) (sf : Nat → ByteArray) (kn : KT → AS → KR) (kx : Nat → KT → AS → KR) (kr : KT → AS → KR) :
    (kcode E1 46 A0).run kc k (kt0.put 0 (.slice (some ⟨1, 0, none⟩) n cap)) (start3 m X 2) (fun t σ => (kcode E1 46 A1).run kc k t σ (fun t σ => (kcode E1 46 A2).run kc k t σ (fun t σ => (kcode E1 46 A3).run kc k t σ kn kx kr) kx kr) kx kr) kx kr =
    kn (TA ((kt0.put 0 (.slice (some ⟨1, 0, none⟩) n cap)).put 2 (.bool false)) n cap 0) (SA m X (wantL (cnt zf 0)) zf sf 0 []) := by kernel_rfl
theorem slotA : kslot E1 3 = kfunc E1 Tryz.f3 := by kernel_rfl
theorem acHolds (m : Int) (cap n : Nat) (X : List Value) (zf : Nat → Int) (sf : Nat → ByteArray) (hX : ∀ j, j < n → j ≤ 30 → ∃ R, X = fl zf sf (j + 1) R) :
    (acall E1 40 3 [.slice (some ⟨1, 0, none⟩) n cap] (start3 m X 2)).map (·.1) = some (.bool true) := by
  refine kcall_val (r := (.bool true, (⟨.e, 0, []⟩ : AS))) ?_
  show kcall E1 40 3 [.slice (some ⟨1, 0, none⟩) n cap] (start3 m X 2) kEnd = _
  have h0 : kcall E1 40 3 [.slice (some ⟨1, 0, none⟩) n cap] (start3 m X 2) kEnd = (kslot E1 3).run (kcall E1 39) 40 [.slice (some ⟨1, 0, none⟩) n cap] (start3 m X 2) kEnd := rfl
  rw [h0, slotA]
  simp only [kfunc, shapeA, startC, kc_seq, kc_block, kc_loop]
  have hnt : Tryz.f3.ntmps = 46 := rfl
  simp only [hnt]
  have hp := preA (kcall E1 39) 40 n cap m X zf sf
  rw [hp]
  refine (loopA m cap n X zf sf hX 38 40 _ (fun _ _ _ => none) ?_ 40 0 _ _ (by omega) (by omega) (by omega) ?_).trans rfl
  · intro t σ; rfl
  · exact TA_live (t := (kt0.put 0 (.slice (some ⟨1, 0, none⟩) n cap)).put 2 (.bool false)) rfl
theorem acNil (m : Int) : (acall E1 40 3 [.slice none 0 0] (VAbs.start m)).map (·.1) = some (.bool true) := kval_ok (by kernel_rfl)
/-! ### The law in the world -/
theorem fl_get : ∀ (n : Nat) (zf : Nat → Int) (sf : Nat → ByteArray) (R : List Value) (j : Nat), j < n → (fl zf sf n R)[2 * j]? = some (.int .i64 (zf j)) ∧ (fl zf sf n R)[2 * j + 1]? = some (.string (sf j))
  | 0, zf, sf, R, j, h => by omega
  | n + 1, zf, sf, R, 0, h => by rw [fl_cons]; exact ⟨rfl, rfl⟩
  | n + 1, zf, sf, R, j + 1, h => by
    rw [fl_cons]
    have := fl_get n (fun x => zf (x + 1)) (fun x => sf (x + 1)) R j (by omega)
    have e1 : 2 * (j + 1) = 2 * j + 1 + 1 := by omega
    rw [e1, List.getElem?_cons_succ, List.getElem?_cons_succ, List.getElem?_cons_succ, List.getElem?_cons_succ]
    exact this
theorem fl_len : ∀ (n : Nat) (zf : Nat → Int) (sf : Nat → ByteArray), (fl zf sf n []).length = 2 * n
  | 0, zf, sf => rfl
  | n + 1, zf, sf => by
    rw [fl_cons]
    have := fl_len n (fun x => zf (x + 1)) (fun x => sf (x + 1))
    simp only [List.length_cons, this]; omega
theorem acEmpty (m : Int) (o cap : Nat) : (acall E1 40 3 [.slice (some ⟨1, o, none⟩) 0 cap] (start3 m [] 2)).map (·.1) = some (.bool true) := kval_ok (by kernel_rfl)
theorem acCalls {W : World} {m : Int} (hm : W.cell? ⟨0, 0, none⟩ = some (.int .i64 m)) {b o n c : Nat} {row : TypeId} {cells : Nat} (hsh : W.shape? b = some (row, cells)) {zf : Nat → Int} {sf : Nat → ByteArray}
    (h0 : ∀ i, i < n → W.cell? ⟨b, o + i * 2, none⟩ = some (.int .i64 (zf i))) (h1 : ∀ i, i < n → W.cell? ⟨b, o + (i * 2 + 1), none⟩ = some (.string (sf i))) :
    Calls Tryz.prog 3 #[.slice (some ⟨b, o, none⟩) n c] W fun e w' => e = .returned (.bool true) ∧ Below W.heap.size W w' := by
  have hmem := VAbs.cells_of_cell hm
  obtain ⟨arr, t, fr, hb⟩ : ∃ arr t fr, W.heap[b]? = some (.cells arr t fr) := by
    obtain ⟨arr, t, fr, hb, _⟩ := rowAt_nil (μ := fun _ => none) hsh
    exact ⟨arr, t, fr, hb⟩
  have hlt : b < W.heap.size := (Array.getElem?_eq_some_iff.1 hb).1
  have hcell : ∀ i v, W.cell? ⟨b, i, none⟩ = some v → arr[i]? = some v := by
    intro i v h
    simpa [World.cell?, hb] using h
  cases n with
  | zero =>
    refine VAbs.law_calls3 ok1 (gM := 0) rfl (args := [.slice (some ⟨1, o, none⟩) 0 c]) rfl (l := ⟨b, 0, some 2, 0, fun _ => rfl⟩) (X := []) (g := 2) hm hmem hlt ⟨arr, t, fr, hb, Nat.zero_le _, fun i v v' q => by simp at q, rfl, Nat.zero_le _, fun q => by cases q⟩ ?_ (acEmpty m o c)
    refine ⟨rfl, fun i x x' hx hx' => ?_⟩
    cases i with
    | zero =>
      cases hx; cases hx'
      exact .slice (.inr ⟨⟨_, rfl, rfl, by simp⟩, .inl rfl⟩)
    | succ i => simp at hx
  | succ n =>
    have hsz : o + (2 * (n + 1)) ≤ arr.size := by
      have := hcell _ _ (h1 n (by omega))
      have := (Array.getElem?_eq_some_iff.1 this).1
      omega
    refine VAbs.law_calls3 ok1 (gM := 0) rfl (args := [.slice (some ⟨1, 0, none⟩) (n + 1) c]) rfl (l := ⟨b, o, some 2, 0, fun h => by cases h⟩) (X := fl zf sf (n + 1) []) (g := 2) hm hmem hlt ⟨arr, t, fr, hb, ?_, ?_, rfl, Nat.zero_le _, fun q => by cases q⟩ ?_
      (acHolds m c (n + 1) _ zf sf (fun j hj _ => fl_pre zf sf [] (n + 1) j hj))
    · rw [fl_len]; exact hsz
    · intro i v v' hv hv'
      have hi : i < 2 * (n + 1) := by
        have := (List.getElem?_eq_some_iff.1 hv).1
        rw [fl_len] at this; exact this
      have key : v = v' := by
        rcases Nat.mod_two_eq_zero_or_one i with e | e
        · obtain ⟨j, rfl⟩ : ∃ j, i = 2 * j := ⟨i / 2, by omega⟩
          have g := (fl_get (n + 1) zf sf [] j (by omega)).1
          rw [g] at hv; cases hv
          have := hcell _ _ (h0 j (by omega))
          have e2 : o + 2 * j = o + j * 2 := by omega
          simp only [e2] at hv'
          rw [this] at hv'; cases hv'; rfl
        · obtain ⟨j, rfl⟩ : ∃ j, i = 2 * j + 1 := ⟨i / 2, by omega⟩
          have g := (fl_get (n + 1) zf sf [] j (by omega)).2
          rw [g] at hv; cases hv
          have := hcell _ _ (h1 j (by omega))
          have e2 : o + (2 * j + 1) = o + (j * 2 + 1) := by omega
          simp only [e2] at hv'
          rw [this] at hv'; cases hv'; rfl
      subst key
      have hcl : flat v = true := by
        rcases Nat.mod_two_eq_zero_or_one i with e | e
        · obtain ⟨j, rfl⟩ : ∃ j, i = 2 * j := ⟨i / 2, by omega⟩
          have g := (fl_get (n + 1) zf sf [] j (by omega)).1
          rw [g] at hv; cases hv; rfl
        · obtain ⟨j, rfl⟩ : ∃ j, i = 2 * j + 1 := ⟨i / 2, by omega⟩
          have g := (fl_get (n + 1) zf sf [] j (by omega)).2
          rw [g] at hv; cases hv; rfl
      exact .flat hcl
    · refine ⟨rfl, fun i x x' hx hx' => ?_⟩
      cases i with
      | zero =>
        cases hx; cases hx'
        exact .slice (.inr ⟨⟨_, rfl, rfl, by simp⟩, .inl rfl⟩)
      | succ i => simp at hx
theorem add_at (b o k : Nat) : (⟨b, o, none⟩ : Addr).add k = ⟨b, o + k, none⟩ := by
  unfold Addr.add
  split
  · rename_i h; subst h; rfl
  · rfl
def zV (v : Value) : Int := match v with
  | .int _ z => z
  | _ => 0
def sV (v : Value) : ByteArray := match v with
  | .string s => s
  | _ => ⟨#[]⟩
theorem own : ownKnob Tryz.prog.godebug = none := by kernel_rfl
set_option maxRecDepth 100000 in
theorem lifted (os : Os) (started : os.Started) (H : Type) (enc : TypeId × Value → H) :
    ReturnsInHanded {} Tryz.checked os 3 .any (fun w args => (Rows.auditCountsSpec.pre enc Tryz.prog Tryz.f3 Rows.auditCountsRow.domain false w args ∧ laidMetH Tryz.prog Rows.auditCountsRow.laid w) ∧ sizedMet enc Tryz.prog Tryz.f3 (OpenSpec.ofChange Rows.auditCountsSpec) false w args)
      (Rows.auditCountsSpec.post enc Tryz.prog Tryz.f3 false true false false) := by
  refine VAbs.handed_shaped (C := Tryz.checked) (X := fun w _ => laidMetH Tryz.prog Rows.auditCountsRow.laid w) (fun _ _ _ hh h => h.of_heap hh) own started (by kernel_rfl) Tryz.func3
    (ChangeSpec.witness_shaped (enc := enc) (C := Tryz.checked) (os := os) (X := fun w _ => laidMetH Tryz.prog Rows.auditCountsRow.laid w) false (World.laidAll Tryz.prog os Rows.auditCountsRow.laid) #[Go.Value.slice none 0 0] 8 (World.laidAll_os _ _ _)
      (World.shaped_of_ZipB (by kernel_rfl) (by kernel_rfl)) (by kernel_rfl) (by kernel_rfl) (by kernel_rfl)
      (by rw [MakeChecks.laidMetH_plain _ _ _ (by kernel_rfl)]; exact laidMet_laidAll _ (by kernel_rfl) (by kernel_rfl))) ?_
  intro W base args ds gs before hsh hval0 hW hsz0
  have hsz : (DataW.weightsEach Tryz.prog (Tryz.f3.params.toList ++ Rows.auditCountsSpec.plain.varTypes Tryz.prog) (ds ++ gs)).all (· ≤ reachBytes) = true := hsz0
  have hval : ∀ (j : Nat) t v, Tryz.f3.params[j]? = some t → args[j]? = some v → Value.okWide Tryz.prog W .any base t v := hval0
  have hlt := hW.lt
  have hW' := hW
  obtain ⟨p, q, hA0, hV, rfl, hfz, hnd⟩ := hW
  have hA : DataW.TrodAll enc Tryz.prog W 0 (fun _ => true) true Tryz.f3.params.toList args.toList ds p := hA0
  have hAall := hA
  rw [Tryz.params3] at hA hval hsz
  obtain ⟨v0, vs0, d0, ds0, p0, q0, hargs, rfl, rfl, h0, r0⟩ := trodAll_cons hA
  obtain ⟨rfl, rfl, rfl⟩ := trodAll_nil r0
  obtain rfl : args = #[v0] := by cases args; simp_all
  obtain ⟨rfl, rfl⟩ := trodVars_none hV
  have hcalls : Calls Tryz.prog 3 #[v0] W fun e w' => e = .returned (.bool true) ∧ Below W.heap.size W w' := by
    obtain ⟨m, hm⟩ : ∃ m, W.cell? ⟨0, 0, none⟩ = some (.int .i64 m) :=
      cell_of_shapedOpen_int (t := 3) (zero := #[.int .i64 0]) hsh (of_decide_eq_true (by kernel_rfl)) (by kernel_rfl) rfl (by kernel_rfl) (by kernel_rfl) Tryz.underlying3
    have hc0 : Cell.okWide Tryz.prog W .any base 22 v0 := by
      have := hval 0 22 v0 rfl rfl
      unfold Value.okWide at this
      rw [Tryz.underlying22] at this
      exact this
    rcases VAbs.cell_slice Tryz.underlying22 hc0 with rfl | ⟨b, o, n, c, rfl, hle, row, cells, hsh1⟩
    · exact VAbs.law_calls ok1 (gM := 0) rfl rfl (by intro x hx; obtain rfl := List.mem_singleton.1 hx; rfl) hm (VAbs.cells_of_cell hm) (acNil m)
    · obtain ⟨fuel, hf⟩ := h0
      rcases Go.Deep.open_slice_pairs Tryz.underlying22 Tryz.underlying26 (by kernel_rfl) rfl rfl (by kernel_rfl) (by kernel_rfl) hf with ⟨hh, _⟩ | ⟨a, len, cap, m', nn, V0, V1, D0, D1, P0, P1, hcs, _, hl, _, hmm, _, hx⟩
      · have : [Go.Value.slice (some ⟨b, o, none⟩) n c] = [Go.Value.slice none 0 0] := hh
        simp at this
      · have e : [Go.Value.slice (some ⟨b, o, none⟩) n c] = [Go.Value.slice (some a) len cap] := hcs
        simp only [List.cons.injEq, Value.slice.injEq, Option.some.injEq, and_true] at e
        obtain ⟨rfl, rfl, rfl⟩ := e
        have hnm : n ≤ m' := by rw [hmm]; split <;> omega
        refine acCalls hm hsh1 (zf := fun i => zV (V0 i)) (sf := fun i => sV (V1 i)) ?_ ?_
        · intro i hi
          obtain ⟨g0, g1, t0, t1⟩ := hx i (by omega)
          obtain ⟨z, hz, _, _⟩ := DataW.trod_int (k := .i64) Tryz.underlying3 t0
          have hv : V0 i = .int .i64 z := by simpa using hz
          have e0 : zV (V0 i) = z := by rw [hv]; rfl
          rw [hv] at g0
          simp only [e0]
          rw [add_at] at g0
          exact g0
        · intro i hi
          obtain ⟨g0, g1, t0, t1⟩ := hx i (by omega)
          obtain ⟨s, hs, _, _⟩ := DataW.trod_string Tryz.underlying9 t1
          have hv : V1 i = .string s := by simpa using hs
          have e1 : sV (V1 i) = s := by rw [hv]; rfl
          rw [hv] at g1
          simp only [e1]
          rw [add_at] at g1
          exact g1
  refine hcalls.mono fun e W' ⟨he, bel⟩ => ?_
  subst he
  exact ⟨_, rfl, _, _, _, [], _, [], hW', trodAll_mk1 (shut_bool Tryz.underlying4 _), VAbs.trodAll_below (by kernel_rfl) bel (by kernel_rfl) hAall (fun x hx => hlt x (List.mem_append_left _ hx)), rfl, bel.frame _, fun h => by cases h⟩
theorem said : Rows.AuditCountsSaid :=
  OpenClaim.holds_of_wide 3 Tryz.f3 rfl rfl rfl rfl rfl rfl rfl ⟨rfl, rfl, rfl, rfl, rfl⟩ rfl rfl rfl rfl rfl (by kernel_rfl) Tryz.func3 (by kernel_rfl)
    (of_decide_eq_true (by kernel_rfl)) (by unfold Func.isWrapper; first | (rw [if_pos (by decide +kernel)]; kernel_rfl) | (rw [if_neg (by decide +kernel)]; exact ⟨rfl, rfl⟩))
    (fun os started H enc _ => lifted os started H enc)
theorem auditCounts_holds : Rows.AuditCountsCardSaid :=
  Claim7.holds_tied_plain_at .later [] _ _ _ _ said (fun _ h => by cases h) (by kernel_rfl) (fun _ h => by cases h) auditCounts_row_tie rfl ⟨rfl, rfl⟩ (by kernel_rfl) rfl
    (fun f fn hf hfn => by
      obtain rfl : f = 3 := Option.some.inj ((show Tryz.prog.funcNamed "virgate/virgatelaw33.AuditCounts" = some 3 by kernel_rfl).symm.trans hf) |>.symm
      obtain rfl : fn = Tryz.f3 := (Option.some.inj (Tryz.func3.symm.trans hfn)).symm
      exact ⟨by kernel_rfl, fun j t ht => by
        rw [Tryz.params3] at ht
        have hm : t ∈ [22] := by simpa using Array.mem_of_getElem? ht
        have hall : ([22].all fun u => !Tryz.prog.wantsStandIn u) = true := by kernel_rfl
        exact (show Tryz.prog.wantsStandIn t = false by simpa using List.all_eq_true.1 hall t hm)⟩)
    (by kernel_rfl)
#print axioms auditCounts_holds
end Go.Proofs.YtabekkhkffkepaaGreatDoor
