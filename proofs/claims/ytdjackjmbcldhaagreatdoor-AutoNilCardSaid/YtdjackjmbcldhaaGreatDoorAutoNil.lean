/- AutoNil returns true for every want: with a procedure that is not there nothing happens. -/
import Derived.Test.YtdjackjmbcldhaaGreatDoorTie
import Derived.Test.YtdjackjmbcldhaaGreatDoorCards
import Derived.Test.YtdjackjmbcldhaaGreatDoorEnv
import Derived.ProofKit
import Derived.OpenShut
import Derived.ShutString
import Derived.ChangeSame
import Derived.Deep.Strs
import Derived.ChangeOld
import Derived.LaidMore
import Derived.Lay
import Derived.SevenTiedAt
import Derived.Stop.Joined
import Derived.Shelf.Vars
import Derived.KernelRfl
namespace Go.Proofs.YtdjackjmbcldhaaGreatDoor
open Go Go.VAbs Go.RowKit Go.ChangeShapes Go.WideShapes Go.ChangeAt
open Go.ChangeMaps (open_string shut_string)
set_option linter.unusedVariables false
set_option linter.unusedSimpArgs false
set_option maxRecDepth 1000000
theorem awakeK : ∀ m : Int, kval E0 3000 8 [] (VAbs.start m) = some (.bool true) := by
  intro m
  kernel_rfl
theorem awake (m : Int) : (acall E0 3000 8 [] (VAbs.start m)).map (·.1) = some (.bool true) := kval_ok (awakeK m)
def okN (n : Nat) : Bool := (Nat.ble 97 n && Nat.ble n 122) || (Nat.ble 65 n && Nat.ble n 90) || (Nat.ble 48 n && Nat.ble n 57) || Nat.beq n 46 || Nat.beq n 45 || Nat.beq n 95
noncomputable def mayAt (m : Int) (n : Nat) : Bool := match kval E0 3000 21 [.int .i32 (Int.ofNat n)] (VAbs.start m) with
  | some (.bool b) => cond (okN n) b (!b)
  | _ => false
theorem may_small (m : Int) : upTo (mayAt m) 128 = true := by kernel_rfl
theorem may_large (m : Int) (d : Nat) : kval E0 3000 21 [.int .i32 (Int.ofNat (d + 128))] (VAbs.start m) = some (.bool false) := by kernel_rfl
theorem okN_large (d : Nat) : okN (d + 128) = false := by kernel_rfl
def fMay : List Value → Option Value
  | [.int .i32 (.ofNat n)] => some (.bool (okN n))
  | _ => none
theorem may_run (m : Int) (n : Nat) : (acall E0 3000 21 [.int .i32 (Int.ofNat n)] (VAbs.start m)).map (·.1) = some (.bool (okN n)) := by
  apply kval_ok
  rcases (show n < 128 ∨ ∃ d, n = d + 128 from (Nat.lt_or_ge n 128).imp id fun h => ⟨n - 128, by omega⟩) with h | ⟨d, rfl⟩
  · have := upTo_ok (may_small m) n h
    unfold mayAt at this
    split at this
    · rename_i b hb
      rw [hb]
      congr 2
      cases hk : okN n <;> rw [hk] at this <;> cases b <;> first | rfl | cases this
    · cases this
  · rw [okN_large]; exact may_large m d

noncomputable def prims2 : Nat → Option (List Value → AS → Option (Value × AS))
  | 21 => some (pFun fMay)
  | n => prims0 n
noncomputable def E2 : Env := Env.of Tryz.prog (oneGlob 0) prims2
noncomputable def b112 : Code := (Tryz.f10.body).getD .skip
noncomputable def R0 : Code := cA b112
noncomputable def R1 : Code := cA (cA (cB b112))
noncomputable def LB : Code := cA (cA (cB (cA (cB b112))))
noncomputable def CC : Code := cB (cB b112)
theorem shape112 : Tryz.f10.body = some (.seq R0 (.seq (.seq R1 (.block 0 (.loop LB))) CC)) := by kernel_rfl
theorem fn112 : E2.fn 10 = some Tryz.f10 := by kernel_rfl
theorem r0 (kc : KCall) (k : Nat) (t : KT) (σ : AS) (kn : KT → AS → KR) (kx : Nat → KT → AS → KR) (kr : KT → AS → KR) : (kcode E2 20 R0).run kc k t σ kn kx kr = kn (t.put 2 (.bool false)) σ := by kernel_rfl
theorem r1 (kc : KCall) (k : Nat) (t : KT) (s : ByteArray) (σ : AS) (kn : KT → AS → KR) (kx : Nat → KT → AS → KR) (kr : KT → AS → KR) : (kcode E2 20 R1).run kc k (t.put 0 (.string s)) σ kn kx kr = kn (((t.put 0 (.string s)).put 5 (.string s)).put 6 (.pointer (some ⟨σ.next, 0, none⟩))) (σ.alloc (.iter s 0)) := by kernel_rfl
noncomputable def hs (m : Int) (s : ByteArray) (p : Nat) (ws : List Nat) : AS := { heap := ((VAbs.start m).heap.set 1 (.iter s p)), next := 2, ws := ws }
theorem lb (m : Int) (kk : Nat) (k : Nat) (t : KT) (s : ByteArray) (p : Nat) (ws : List Nat) (kn : KT → AS → KR) (kx : Nat → KT → AS → KR) (kr : KT → AS → KR) :
    (kcode E2 20 LB).run (kcall E2 (kk + 1)) k ((t.put 0 (.string s)).put 6 (.pointer (some ⟨1, 0, none⟩))) (hs m s p ws) kn kx kr = 
    Bool.rec (kx 0 ((((t.put 0 (.string s)).put 6 (.pointer (some ⟨1, 0, none⟩))).put 7 (.tuple #[.bool false])).put 8 (.bool false)) (hs m s p ws))
     (Bool.rec
       (kn (((((((((t.put 0 (.string s)).put 6 (.pointer (some ⟨1, 0, none⟩))).put 7 (.tuple #[.bool true, .int .i64 (Int.ofNat p), .int .i32 (Int.ofNat (Utf8.decode s p).1)])).put 8 (.bool true)).put 9 (.int .i32 (Int.ofNat (Utf8.decode s p).1))).put 4 (.int .i32 (Int.ofNat (Utf8.decode s p).1))).put 10 (.int .i32 (Int.ofNat (Utf8.decode s p).1))).put 11 (.bool (okN (Utf8.decode s p).1))).put 12 (.bool (Bool.rec true false (okN (Utf8.decode s p).1)))) (hs m s (Nat.add p (Utf8.decode s p).2) (1 :: ws)))
       (kr ((((((((((t.put 0 (.string s)).put 6 (.pointer (some ⟨1, 0, none⟩))).put 7 (.tuple #[.bool true, .int .i64 (Int.ofNat p), .int .i32 (Int.ofNat (Utf8.decode s p).1)])).put 8 (.bool true)).put 9 (.int .i32 (Int.ofNat (Utf8.decode s p).1))).put 4 (.int .i32 (Int.ofNat (Utf8.decode s p).1))).put 10 (.int .i32 (Int.ofNat (Utf8.decode s p).1))).put 11 (.bool (okN (Utf8.decode s p).1))).put 12 (.bool (Bool.rec true false (okN (Utf8.decode s p).1)))).put 2 (.bool false)) (hs m s (Nat.add p (Utf8.decode s p).2) (1 :: ws)))
       (Bool.rec true false (okN (Utf8.decode s p).1))) (Nat.ble (Nat.succ p) s.size) := by kernel_rfl

def goodF (s : ByteArray) : Nat → Nat → Bool
  | 0, _ => true
  | n + 1, p => cond (Nat.ble (Nat.succ p) s.size) (cond (okN (Utf8.decode s p).1) (goodF s n (Nat.add p (Utf8.decode s p).2)) false) true
theorem loopR (m : Int) (s : ByteArray) (kk k : Nat) (kx : Nat → KT → AS → KR) (kr : KT → AS → KR) : ∀ (n p : Nat) (t : KT) (ws : List Nat), 1 ≤ n → s.size + 2 ≤ p + n → t.get 0 = .string s → t.get 6 = .pointer (some ⟨1, 0, none⟩) →
    (goodF s n p = true ∧ ∃ t' σ', kloop (kcode E2 20 LB) (kcall E2 (kk + 1)) k kx kr n t (hs m s p ws) = kx 0 t' σ' ∧ t'.get 0 = .string s) ∨
    (goodF s n p = false ∧ ∃ t' σ', kloop (kcode E2 20 LB) (kcall E2 (kk + 1)) k kx kr n t (hs m s p ws) = kr t' σ' ∧ t'.get 2 = .bool false) := by
  intro n
  induction n with
  | zero => 
    intro p t ws hn hp h0 h6; omega
  | succ n ih =>
    intro p t ws hn hp h0 h6
    have hunf : kloop (kcode E2 20 LB) (kcall E2 (kk + 1)) k kx kr (n + 1) t (hs m s p ws) = (kcode E2 20 LB).run (kcall E2 (kk + 1)) k t (hs m s p ws) (kloop (kcode E2 20 LB) (kcall E2 (kk + 1)) k kx kr n) kx kr := rfl
    rw [hunf]
    have hput : (t.put 0 (.string s)).put 6 (.pointer (some ⟨1, 0, none⟩)) = t := by rw [KT.put_eq h0, KT.put_eq h6]
    have hb := lb m kk k t s p ws (kloop (kcode E2 20 LB) (kcall E2 (kk + 1)) k kx kr n) kx kr
    rw [hput] at hb
    rw [hb]
    simp only [goodF]
    cases h1 : Nat.ble (Nat.succ p) s.size with
    | false =>
      refine .inl ⟨rfl, _, _, rfl, ?_⟩
      rw [KT.get_put_ne _ _ (by decide) (by decide) (by decide), KT.get_put_ne _ _ (by decide) (by decide) (by decide)]; exact h0
    | true =>
      cases h2 : okN (Utf8.decode s p).1 with
      | false =>
        refine .inr ⟨rfl, _, _, rfl, ?_⟩
        rw [KT.get_put_eq _ _ (by decide)]
      | true =>
        have hw := VAbs.decode_pos s p
        have h1' := Nat.le_of_ble_eq_true h1
        have hq : s.size + 2 ≤ Nat.add p (Utf8.decode s p).2 + n := by show s.size + 2 ≤ p + (Utf8.decode s p).2 + n; omega
        refine ih _ _ _ (by omega) hq ?_ ?_
        · simp only [KT.get_put, Nat.reduceLT, Nat.reduceEqDiff, if_false]; exact h0
        · simp only [KT.get_put, Nat.reduceLT, Nat.reduceEqDiff, if_false]; exact h6

theorem okN_high {n : Nat} (h : 128 ≤ n) : okN n = false := by
  obtain ⟨d, rfl⟩ : ∃ d, n = d + 128 := ⟨n - 128, by omega⟩
  exact okN_large d
def okFrom (s : ByteArray) : Nat → Nat → Bool
  | 0, _ => true
  | n + 1, p => cond (Nat.ble (Nat.succ p) s.size) (cond (okN (s.get! p).toNat) (okFrom s n (p + 1)) false) true
theorem goodF_eq (s : ByteArray) : ∀ n p, goodF s n p = okFrom s n p
  | 0, _ => rfl
  | n + 1, p => by
    simp only [goodF, okFrom]
    cases Nat.ble (Nat.succ p) s.size with
    | false => rfl
    | true =>
      simp only [cond_true]
      rcases Nat.lt_or_ge (s.get! p).toNat 128 with h | h
      · rw [VAbs.decode_low h]
        cases okN (s.get! p).toNat with
        | false => rfl
        | true => exact goodF_eq s n (p + 1)
      · rw [okN_high h, okN_high (VAbs.decode_high h)]; rfl

theorem cc_nil (kc : KCall) (k : Nat) (t : KT) (σ : AS) (kn : KT → AS → KR) (kx : Nat → KT → AS → KR) (kr : KT → AS → KR) : (kcode E2 20 CC).run kc k (t.put 0 (.string ⟨⟨[]⟩⟩)) σ kn kx kr = kr (((((((((t.put 0 (.string ⟨⟨[]⟩⟩)).put 13 (.string ⟨⟨[]⟩⟩)).put 14 (.bool false)).put 15 (.bool false)).put 16 undef).put 17 undef).put 18 undef).put 19 (.bool false)).put 2 (.bool false)) σ := by kernel_rfl
theorem cc_cons (kc : KCall) (k : Nat) (t : KT) (a : UInt8) (r : List UInt8) (σ : AS) (kn : KT → AS → KR) (kx : Nat → KT → AS → KR) (kr : KT → AS → KR) : (kcode E2 20 CC).run kc k (t.put 0 (.string ⟨⟨a :: r⟩⟩)) σ kn kx kr = kr (((((((((t.put 0 (.string ⟨⟨a :: r⟩⟩)).put 13 (.string ⟨⟨a :: r⟩⟩)).put 14 (.bool true)).put 15 (.bool true)).put 16 (.string ⟨⟨a :: r⟩⟩)).put 17 (.int .i64 (Int.ofNat (r.length + 1)))).put 18 (.bool (Nat.ble (r.length + 1) 64))).put 19 (.bool (Nat.ble (r.length + 1) 64))).put 2 (.bool (Nat.ble (r.length + 1) 64))) σ := by kernel_rfl
theorem res112 (t : KT) (σ : AS) (K : Value → AS → KR) : (kres E2 Tryz.f10.results.toList).run t σ (fun l => K (resValue l) σ) = K (t.get 2) σ := by kernel_rfl
theorem slot112 : kslot E2 10 = kfunc E2 Tryz.f10 := by kernel_rfl
theorem start112 (s : ByteArray) (F : KT → KR) : kstart [.string s] 0 kt0 F = F (kt0.put 0 (.string s)) := by kernel_rfl
def rightB (s : ByteArray) : Bool := okFrom s (s.size + 2) 0 && (Nat.ble 1 s.size && Nat.ble s.size 64)
theorem right_k (m : Int) (s : ByteArray) (K : Value → AS → KR) : ∃ σ', kcall E2 (s.size + 2) 10 [.string s] (VAbs.start m) K = K (.bool (rightB s)) σ' := by
  have h0 : kcall E2 (s.size + 2) 10 [.string s] (VAbs.start m) K = (kslot E2 10).run (kcall E2 (s.size + 1)) (s.size + 2) [.string s] (VAbs.start m) K := rfl
  rw [h0, slot112]
  simp only [kfunc, shape112, start112, kc_seq, kc_block, kc_loop]
  have hnt : Tryz.f10.ntmps = 20 := rfl
  simp only [hnt]
  rw [r0]
  have hcomm : (kt0.put 0 (.string s)).put 2 (.bool false) = (kt0.put 2 (.bool false)).put 0 (.string s) := by kernel_rfl
  rw [hcomm, r1]
  have hσ : (VAbs.start m).alloc (.iter s 0) = hs m s 0 [] := by kernel_rfl
  rw [hσ]
  have hnx : (VAbs.start m).next = 1 := rfl
  rw [hnx]
  have e0 : ((((kt0.put 2 (.bool false)).put 0 (.string s)).put 5 (.string s)).put 6 (.pointer (some ⟨1, 0, none⟩))).get 0 = .string s := by kernel_rfl
  have e6 : ((((kt0.put 2 (.bool false)).put 0 (.string s)).put 5 (.string s)).put 6 (.pointer (some ⟨1, 0, none⟩))).get 6 = .pointer (some ⟨1, 0, none⟩) := by kernel_rfl
  rcases loopR m s s.size (s.size + 2) (fun i t σ => Bool.rec (motive := fun _ => KR) (none) ((kcode E2 20 CC).run (kcall E2 (s.size + 1)) (s.size + 2) t σ (fun t σ' => (kres E2 Tryz.f10.results.toList).run t σ' fun l => K (resValue l) σ') (fun _ _ _ => none) (fun t σ' => (kres E2 Tryz.f10.results.toList).run t σ' fun l => K (resValue l) σ')) (Nat.beq i 0)) (fun t σ' => (kres E2 Tryz.f10.results.toList).run t σ' fun l => K (resValue l) σ') (s.size + 2) 0 _ [] (by omega) (by omega) e0 e6 with ⟨hg, t', σ', h1, h2⟩ | ⟨hg, t', σ', h1, h2⟩
  · rw [h1]
    rw [goodF_eq] at hg
    simp only [rightB, hg, Bool.true_and]
    refine ⟨σ', ?_⟩
    show (kcode E2 20 CC).run (kcall E2 (s.size + 1)) (s.size + 2) t' σ' (fun t σ' => (kres E2 Tryz.f10.results.toList).run t σ' fun l => K (resValue l) σ') (fun _ _ _ => none) (fun t σ' => (kres E2 Tryz.f10.results.toList).run t σ' fun l => K (resValue l) σ') = _
    obtain ⟨⟨l⟩⟩ := s
    cases l with
    | nil =>
      rw [← KT.put_eq h2, cc_nil, res112, KT.get_put_eq _ _ (by decide)]; rfl
    | cons a r =>
      rw [← KT.put_eq h2, cc_cons, res112, KT.get_put_eq _ _ (by decide)]
      have e1 : (ByteArray.mk ⟨a :: r⟩).size = r.length + 1 := rfl
      have e2 : Nat.ble 1 (r.length + 1) = true := Nat.ble_eq_true_of_le (by omega)
      rw [e1, e2, Bool.true_and]
  · rw [h1]
    rw [goodF_eq] at hg
    simp only [rightB, hg, Bool.false_and]
    refine ⟨σ', ?_⟩
    rw [res112, h2]
theorem right_run (m : Int) (s : ByteArray) : ∃ k, (acall E2 k 10 [.string s] (VAbs.start m)).map (·.1) = some (.bool (rightB s)) := by
  refine ⟨s.size + 2, ?_⟩
  obtain ⟨σ', h⟩ := right_k m s (fun v' _ => some (v', (⟨.e, 0, []⟩ : AS)))
  exact kcall_val h

noncomputable def bQ : Code := (Tryz.f14.body).getD .skip
noncomputable def Q0 : Code := cA bQ
noncomputable def QL : Code := cA (cA (cB (cA (cB bQ))))
noncomputable def Q1 : Code := cA (cA (cB bQ))
noncomputable def QC : Code := cB (cB bQ)
noncomputable def Q2 : Code := cA QL
noncomputable def Q4 : Code := cA (cA (cA (cB QL)))
noncomputable def Q5 : Code := cB (cA (cA (cB QL)))
noncomputable def Q3 : Code := cB (cB QL)
theorem shapeQ : Tryz.f14.body = some (.seq Q0 (.seq (.seq Q1 (.block 0 (.loop (.seq Q2 (.seq (.block 1 (.seq Q4 Q5)) Q3))))) QC)) := by kernel_rfl
theorem q0 (kc : KCall) (k : Nat) (t : KT) (σ : AS) (kn : KT → AS → KR) (kx : Nat → KT → AS → KR) (kr : KT → AS → KR) : (kcode E2 57 Q0).run kc k t σ kn kx kr = kn (t.put 2 (.bool false)) σ := by kernel_rfl
theorem q1 (kc : KCall) (k : Nat) (t : KT) (σ : AS) (kn : KT → AS → KR) (kx : Nat → KT → AS → KR) (kr : KT → AS → KR) : (kcode E2 57 Q1).run kc k t σ kn kx kr = kn (t.put 3 (.int .i64 (Int.ofNat 0))) σ := by kernel_rfl
theorem q2 (kc : KCall) (k : Nat) (t : KT) (s : ByteArray) (i : Nat) (σ : AS) (kn : KT → AS → KR) (kx : Nat → KT → AS → KR) (kr : KT → AS → KR) :
    (kcode E2 57 Q2).run kc k ((t.put 0 (.string s)).put 3 (.int .i64 (Int.ofNat i))) σ kn kx kr =
    Bool.rec (kx 0 ((((((t.put 0 (.string s)).put 3 (.int .i64 (Int.ofNat i))).put 5 (.int .i64 (Int.ofNat i))).put 6 (.string s)).put 7 (.int .i64 (Int.ofNat s.data.toList.length))).put 8 (.bool (Nat.ble (Nat.succ i) s.data.toList.length))) σ)
      (kn ((((((t.put 0 (.string s)).put 3 (.int .i64 (Int.ofNat i))).put 5 (.int .i64 (Int.ofNat i))).put 6 (.string s)).put 7 (.int .i64 (Int.ofNat s.data.toList.length))).put 8 (.bool (Nat.ble (Nat.succ i) s.data.toList.length))) σ)
      (Nat.ble (Nat.succ i) s.data.toList.length) := by kernel_rfl
theorem q4 (kc : KCall) (k : Nat) (t : KT) (s : ByteArray) (i : Nat) (σ : AS) (kn : KT → AS → KR) (kx : Nat → KT → AS → KR) (kr : KT → AS → KR) :
    (kcode E2 57 Q4).run kc k ((t.put 0 (.string s)).put 3 (.int .i64 (Int.ofNat i))) σ kn kx kr =
    kth i s.data.toList fun b => kn ((((((t.put 0 (.string s)).put 3 (.int .i64 (Int.ofNat i))).put 11 (.string s)).put 12 (.int .i64 (Int.ofNat i))).put 13 (.int .u8 (Int.ofNat b.toNat))).put 4 (.int .u8 (Int.ofNat b.toNat))) σ := by kernel_rfl
theorem q3 (kc : KCall) (k : Nat) (t : KT) (i : Nat) (σ : AS) (kn : KT → AS → KR) (kx : Nat → KT → AS → KR) (kr : KT → AS → KR) :
    (kcode E2 57 Q3).run kc k (t.put 3 (.int .i64 (Int.ofNat i))) σ kn kx kr = kn ((((t.put 3 (.int .i64 (Int.ofNat i))).put 9 (.int .i64 (Int.ofNat i))).put 10 (.int .i64 (kwrapN .i64 (Nat.add i 1)))).put 3 (.int .i64 (kwrapN .i64 (Nat.add i 1)))) σ := by kernel_rfl
/-- A sign is a name's sign, or not: 128 of them one by one, the others at once. -/
def q5P' (C : KCode) (n : Nat) : Prop := ∀ (kc : KCall) (k : Nat) (t : KT) (σ : AS) (G : Value → Value → AS → KR) (H : Value → AS → KR) (kx : Nat → KT → AS → KR),
    C.run kc k (t.put 4 (.int .u8 (Int.ofNat n))) σ (fun t σ => G (t.get 0) (t.get 3) σ) kx (fun t σ => H (t.get 2) σ) = cond (okN n) (G (t.get 0) (t.get 3) σ) (H (.bool false) σ)
def q5P (n : Nat) : Prop := q5P' (kcode E2 57 Q5) n
def allP (P : Nat → Prop) : Nat → Prop
  | 0 => True
  | n + 1 => P n ∧ allP P n
theorem allP_ok {P : Nat → Prop} : ∀ {n : Nat}, allP P n → ∀ i, i < n → P i
  | 0, _, i, hi => absurd hi (by omega)
  | n + 1, h, i, hi => by
    rcases (by omega : i = n ∨ i < n) with rfl | q
    · exact h.1
    · exact allP_ok h.2 i q
theorem q5_0 : q5P 0 := by intro kc k t σ G H kx; kernel_rfl
theorem q5_1 : q5P 1 := by intro kc k t σ G H kx; kernel_rfl
theorem q5_2 : q5P 2 := by intro kc k t σ G H kx; kernel_rfl
theorem q5_3 : q5P 3 := by intro kc k t σ G H kx; kernel_rfl
theorem q5_4 : q5P 4 := by intro kc k t σ G H kx; kernel_rfl
theorem q5_5 : q5P 5 := by intro kc k t σ G H kx; kernel_rfl
theorem q5_6 : q5P 6 := by intro kc k t σ G H kx; kernel_rfl
theorem q5_7 : q5P 7 := by intro kc k t σ G H kx; kernel_rfl
theorem q5_8 : q5P 8 := by intro kc k t σ G H kx; kernel_rfl
theorem q5_9 : q5P 9 := by intro kc k t σ G H kx; kernel_rfl
theorem q5_10 : q5P 10 := by intro kc k t σ G H kx; kernel_rfl
theorem q5_11 : q5P 11 := by intro kc k t σ G H kx; kernel_rfl
theorem q5_12 : q5P 12 := by intro kc k t σ G H kx; kernel_rfl
theorem q5_13 : q5P 13 := by intro kc k t σ G H kx; kernel_rfl
theorem q5_14 : q5P 14 := by intro kc k t σ G H kx; kernel_rfl
theorem q5_15 : q5P 15 := by intro kc k t σ G H kx; kernel_rfl
theorem q5_16 : q5P 16 := by intro kc k t σ G H kx; kernel_rfl
theorem q5_17 : q5P 17 := by intro kc k t σ G H kx; kernel_rfl
theorem q5_18 : q5P 18 := by intro kc k t σ G H kx; kernel_rfl
theorem q5_19 : q5P 19 := by intro kc k t σ G H kx; kernel_rfl
theorem q5_20 : q5P 20 := by intro kc k t σ G H kx; kernel_rfl
theorem q5_21 : q5P 21 := by intro kc k t σ G H kx; kernel_rfl
theorem q5_22 : q5P 22 := by intro kc k t σ G H kx; kernel_rfl
theorem q5_23 : q5P 23 := by intro kc k t σ G H kx; kernel_rfl
theorem q5_24 : q5P 24 := by intro kc k t σ G H kx; kernel_rfl
theorem q5_25 : q5P 25 := by intro kc k t σ G H kx; kernel_rfl
theorem q5_26 : q5P 26 := by intro kc k t σ G H kx; kernel_rfl
theorem q5_27 : q5P 27 := by intro kc k t σ G H kx; kernel_rfl
theorem q5_28 : q5P 28 := by intro kc k t σ G H kx; kernel_rfl
theorem q5_29 : q5P 29 := by intro kc k t σ G H kx; kernel_rfl
theorem q5_30 : q5P 30 := by intro kc k t σ G H kx; kernel_rfl
theorem q5_31 : q5P 31 := by intro kc k t σ G H kx; kernel_rfl
theorem q5_32 : q5P 32 := by intro kc k t σ G H kx; kernel_rfl
theorem q5_33 : q5P 33 := by intro kc k t σ G H kx; kernel_rfl
theorem q5_34 : q5P 34 := by intro kc k t σ G H kx; kernel_rfl
theorem q5_35 : q5P 35 := by intro kc k t σ G H kx; kernel_rfl
theorem q5_36 : q5P 36 := by intro kc k t σ G H kx; kernel_rfl
theorem q5_37 : q5P 37 := by intro kc k t σ G H kx; kernel_rfl
theorem q5_38 : q5P 38 := by intro kc k t σ G H kx; kernel_rfl
theorem q5_39 : q5P 39 := by intro kc k t σ G H kx; kernel_rfl
theorem q5_40 : q5P 40 := by intro kc k t σ G H kx; kernel_rfl
theorem q5_41 : q5P 41 := by intro kc k t σ G H kx; kernel_rfl
theorem q5_42 : q5P 42 := by intro kc k t σ G H kx; kernel_rfl
theorem q5_43 : q5P 43 := by intro kc k t σ G H kx; kernel_rfl
theorem q5_44 : q5P 44 := by intro kc k t σ G H kx; kernel_rfl
theorem q5_45 : q5P 45 := by intro kc k t σ G H kx; kernel_rfl
theorem q5_46 : q5P 46 := by intro kc k t σ G H kx; kernel_rfl
theorem q5_47 : q5P 47 := by intro kc k t σ G H kx; kernel_rfl
theorem q5_48 : q5P 48 := by intro kc k t σ G H kx; kernel_rfl
theorem q5_49 : q5P 49 := by intro kc k t σ G H kx; kernel_rfl
theorem q5_50 : q5P 50 := by intro kc k t σ G H kx; kernel_rfl
theorem q5_51 : q5P 51 := by intro kc k t σ G H kx; kernel_rfl
theorem q5_52 : q5P 52 := by intro kc k t σ G H kx; kernel_rfl
theorem q5_53 : q5P 53 := by intro kc k t σ G H kx; kernel_rfl
theorem q5_54 : q5P 54 := by intro kc k t σ G H kx; kernel_rfl
theorem q5_55 : q5P 55 := by intro kc k t σ G H kx; kernel_rfl
theorem q5_56 : q5P 56 := by intro kc k t σ G H kx; kernel_rfl
theorem q5_57 : q5P 57 := by intro kc k t σ G H kx; kernel_rfl
theorem q5_58 : q5P 58 := by intro kc k t σ G H kx; kernel_rfl
theorem q5_59 : q5P 59 := by intro kc k t σ G H kx; kernel_rfl
theorem q5_60 : q5P 60 := by intro kc k t σ G H kx; kernel_rfl
theorem q5_61 : q5P 61 := by intro kc k t σ G H kx; kernel_rfl
theorem q5_62 : q5P 62 := by intro kc k t σ G H kx; kernel_rfl
theorem q5_63 : q5P 63 := by intro kc k t σ G H kx; kernel_rfl
theorem q5_64 : q5P 64 := by intro kc k t σ G H kx; kernel_rfl
theorem q5_65 : q5P 65 := by intro kc k t σ G H kx; kernel_rfl
theorem q5_66 : q5P 66 := by intro kc k t σ G H kx; kernel_rfl
theorem q5_67 : q5P 67 := by intro kc k t σ G H kx; kernel_rfl
theorem q5_68 : q5P 68 := by intro kc k t σ G H kx; kernel_rfl
theorem q5_69 : q5P 69 := by intro kc k t σ G H kx; kernel_rfl
theorem q5_70 : q5P 70 := by intro kc k t σ G H kx; kernel_rfl
theorem q5_71 : q5P 71 := by intro kc k t σ G H kx; kernel_rfl
theorem q5_72 : q5P 72 := by intro kc k t σ G H kx; kernel_rfl
theorem q5_73 : q5P 73 := by intro kc k t σ G H kx; kernel_rfl
theorem q5_74 : q5P 74 := by intro kc k t σ G H kx; kernel_rfl
theorem q5_75 : q5P 75 := by intro kc k t σ G H kx; kernel_rfl
theorem q5_76 : q5P 76 := by intro kc k t σ G H kx; kernel_rfl
theorem q5_77 : q5P 77 := by intro kc k t σ G H kx; kernel_rfl
theorem q5_78 : q5P 78 := by intro kc k t σ G H kx; kernel_rfl
theorem q5_79 : q5P 79 := by intro kc k t σ G H kx; kernel_rfl
theorem q5_80 : q5P 80 := by intro kc k t σ G H kx; kernel_rfl
theorem q5_81 : q5P 81 := by intro kc k t σ G H kx; kernel_rfl
theorem q5_82 : q5P 82 := by intro kc k t σ G H kx; kernel_rfl
theorem q5_83 : q5P 83 := by intro kc k t σ G H kx; kernel_rfl
theorem q5_84 : q5P 84 := by intro kc k t σ G H kx; kernel_rfl
theorem q5_85 : q5P 85 := by intro kc k t σ G H kx; kernel_rfl
theorem q5_86 : q5P 86 := by intro kc k t σ G H kx; kernel_rfl
theorem q5_87 : q5P 87 := by intro kc k t σ G H kx; kernel_rfl
theorem q5_88 : q5P 88 := by intro kc k t σ G H kx; kernel_rfl
theorem q5_89 : q5P 89 := by intro kc k t σ G H kx; kernel_rfl
theorem q5_90 : q5P 90 := by intro kc k t σ G H kx; kernel_rfl
theorem q5_91 : q5P 91 := by intro kc k t σ G H kx; kernel_rfl
theorem q5_92 : q5P 92 := by intro kc k t σ G H kx; kernel_rfl
theorem q5_93 : q5P 93 := by intro kc k t σ G H kx; kernel_rfl
theorem q5_94 : q5P 94 := by intro kc k t σ G H kx; kernel_rfl
theorem q5_95 : q5P 95 := by intro kc k t σ G H kx; kernel_rfl
theorem q5_96 : q5P 96 := by intro kc k t σ G H kx; kernel_rfl
theorem q5_97 : q5P 97 := by intro kc k t σ G H kx; kernel_rfl
theorem q5_98 : q5P 98 := by intro kc k t σ G H kx; kernel_rfl
theorem q5_99 : q5P 99 := by intro kc k t σ G H kx; kernel_rfl
theorem q5_100 : q5P 100 := by intro kc k t σ G H kx; kernel_rfl
theorem q5_101 : q5P 101 := by intro kc k t σ G H kx; kernel_rfl
theorem q5_102 : q5P 102 := by intro kc k t σ G H kx; kernel_rfl
theorem q5_103 : q5P 103 := by intro kc k t σ G H kx; kernel_rfl
theorem q5_104 : q5P 104 := by intro kc k t σ G H kx; kernel_rfl
theorem q5_105 : q5P 105 := by intro kc k t σ G H kx; kernel_rfl
theorem q5_106 : q5P 106 := by intro kc k t σ G H kx; kernel_rfl
theorem q5_107 : q5P 107 := by intro kc k t σ G H kx; kernel_rfl
theorem q5_108 : q5P 108 := by intro kc k t σ G H kx; kernel_rfl
theorem q5_109 : q5P 109 := by intro kc k t σ G H kx; kernel_rfl
theorem q5_110 : q5P 110 := by intro kc k t σ G H kx; kernel_rfl
theorem q5_111 : q5P 111 := by intro kc k t σ G H kx; kernel_rfl
theorem q5_112 : q5P 112 := by intro kc k t σ G H kx; kernel_rfl
theorem q5_113 : q5P 113 := by intro kc k t σ G H kx; kernel_rfl
theorem q5_114 : q5P 114 := by intro kc k t σ G H kx; kernel_rfl
theorem q5_115 : q5P 115 := by intro kc k t σ G H kx; kernel_rfl
theorem q5_116 : q5P 116 := by intro kc k t σ G H kx; kernel_rfl
theorem q5_117 : q5P 117 := by intro kc k t σ G H kx; kernel_rfl
theorem q5_118 : q5P 118 := by intro kc k t σ G H kx; kernel_rfl
theorem q5_119 : q5P 119 := by intro kc k t σ G H kx; kernel_rfl
theorem q5_120 : q5P 120 := by intro kc k t σ G H kx; kernel_rfl
theorem q5_121 : q5P 121 := by intro kc k t σ G H kx; kernel_rfl
theorem q5_122 : q5P 122 := by intro kc k t σ G H kx; kernel_rfl
theorem q5_123 : q5P 123 := by intro kc k t σ G H kx; kernel_rfl
theorem q5_124 : q5P 124 := by intro kc k t σ G H kx; kernel_rfl
theorem q5_125 : q5P 125 := by intro kc k t σ G H kx; kernel_rfl
theorem q5_126 : q5P 126 := by intro kc k t σ G H kx; kernel_rfl
theorem q5_127 : q5P 127 := by intro kc k t σ G H kx; kernel_rfl
theorem q5_low : ∀ n, n < 128 → q5P n := allP_ok (n := 128) ⟨q5_127, q5_126, q5_125, q5_124, q5_123, q5_122, q5_121, q5_120, q5_119, q5_118, q5_117, q5_116, q5_115, q5_114, q5_113, q5_112, q5_111, q5_110, q5_109, q5_108, q5_107, q5_106, q5_105, q5_104, q5_103, q5_102, q5_101, q5_100, q5_99, q5_98, q5_97, q5_96, q5_95, q5_94, q5_93, q5_92, q5_91, q5_90, q5_89, q5_88, q5_87, q5_86, q5_85, q5_84, q5_83, q5_82, q5_81, q5_80, q5_79, q5_78, q5_77, q5_76, q5_75, q5_74, q5_73, q5_72, q5_71, q5_70, q5_69, q5_68, q5_67, q5_66, q5_65, q5_64, q5_63, q5_62, q5_61, q5_60, q5_59, q5_58, q5_57, q5_56, q5_55, q5_54, q5_53, q5_52, q5_51, q5_50, q5_49, q5_48, q5_47, q5_46, q5_45, q5_44, q5_43, q5_42, q5_41, q5_40, q5_39, q5_38, q5_37, q5_36, q5_35, q5_34, q5_33, q5_32, q5_31, q5_30, q5_29, q5_28, q5_27, q5_26, q5_25, q5_24, q5_23, q5_22, q5_21, q5_20, q5_19, q5_18, q5_17, q5_16, q5_15, q5_14, q5_13, q5_12, q5_11, q5_10, q5_9, q5_8, q5_7, q5_6, q5_5, q5_4, q5_3, q5_2, q5_1, q5_0, trivial⟩
def q5H (C : KCode) : Prop := ∀ (kc : KCall) (k : Nat) (t : KT) (σ : AS) (G : Value → Value → AS → KR) (H : Value → AS → KR) (kx : Nat → KT → AS → KR) (d : Nat),
    C.run kc k (t.put 4 (.int .u8 (Int.ofNat (d + 128)))) σ (fun t σ => G (t.get 0) (t.get 3) σ) kx (fun t σ => H (t.get 2) σ) = H (.bool false) σ
theorem q5_high : q5H (kcode E2 57 Q5) := by intro kc k t σ G H kx d; kernel_rfl

theorem kloop_succ {b : KCode} {kc : KCall} {k0 : Nat} {kx : Nat → KT → AS → KR} {kr : KT → AS → KR} {m : Nat} {t : KT} {σ : AS} : kloop b kc k0 kx kr (m + 1) t σ = b.run kc k0 t σ (kloop b kc k0 kx kr m) kx kr := rfl
theorem kth_eq {α : Type} : ∀ {k : Nat} {c : List α} {v : α} {K : α → KR}, c[k]? = some v → kth k c K = K v
  | 0, [], v, K, h => by cases h
  | 0, x :: c, v, K, h => by cases h; rfl
  | k + 1, [], v, K, h => by simp at h
  | k + 1, x :: c, v, K, h => kth_eq (k := k) (c := c) (by simpa using h)
theorem get_at {s : ByteArray} {i : Nat} (h : i < s.size) : s.data.toList[i]? = some (s.get! i) := by
  have e : s.get! i = s.data[i]! := rfl
  have h' : i < s.data.size := h
  rw [e, getElem!_pos s.data i h', Array.getElem?_toList, Array.getElem?_eq_getElem h']
theorem shapeQL : QL = .seq Q2 (.seq (.block 1 (.seq Q4 Q5)) Q3) := by kernel_rfl
def capN : Nat := 140737488355328
def dstQ : List Nat := [2, 14, 15, 16, 17, 18, 19, 20, 21, 22, 23, 24, 25, 26, 27, 28, 29, 30, 31, 32, 33, 34, 35, 36, 37, 38, 39, 40, 41, 42, 43, 44, 45, 46, 47, 48]
theorem inQ : codeIn dstQ Q5 = true := by kernel_rfl
/-- The loop, of whatever code that does so. -/
theorem loopA (b C2 C3 C4 C5 : KCode) (kc : KCall) (k : Nat) (s : ByteArray) (hs : s.size ≤ capN) (X : Nat → Value → AS → KR) (H : Value → AS → KR) (kx : Nat → KT → AS → KR) (kr : KT → AS → KR) (hkx : ∀ t σ, t.get 0 = .string s → kx 0 t σ = X 0 (.string s) σ) (hkr : ∀ t σ, kr t σ = H (t.get 2) σ)
    (hb : ∀ t σ kn, b.run kc k t σ kn kx kr = C2.run kc k t σ (fun t σ => C4.run kc k t σ (fun t σ => C5.run kc k t σ (fun t σ => C3.run kc k t σ kn kx kr) (fun i t σ => Bool.rec (motive := fun _ => KR) (kx i t σ) (C3.run kc k t σ kn kx kr) (Nat.beq i 1)) kr)
      (fun i t σ => Bool.rec (motive := fun _ => KR) (kx i t σ) (C3.run kc k t σ kn kx kr) (Nat.beq i 1)) kr) kx kr)
    (h2 : ∀ (t : KT) (i : Nat) (σ : AS) (kn : KT → AS → KR), C2.run kc k ((t.put 0 (.string s)).put 3 (.int .i64 (Int.ofNat i))) σ kn kx kr =
      Bool.rec (kx 0 ((((((t.put 0 (.string s)).put 3 (.int .i64 (Int.ofNat i))).put 5 (.int .i64 (Int.ofNat i))).put 6 (.string s)).put 7 (.int .i64 (Int.ofNat s.data.toList.length))).put 8 (.bool (Nat.ble (Nat.succ i) s.data.toList.length))) σ)
      (kn ((((((t.put 0 (.string s)).put 3 (.int .i64 (Int.ofNat i))).put 5 (.int .i64 (Int.ofNat i))).put 6 (.string s)).put 7 (.int .i64 (Int.ofNat s.data.toList.length))).put 8 (.bool (Nat.ble (Nat.succ i) s.data.toList.length))) σ)
      (Nat.ble (Nat.succ i) s.data.toList.length))
    (h4 : ∀ (t : KT) (i : Nat) (σ : AS) (kn : KT → AS → KR) (kx : Nat → KT → AS → KR), C4.run kc k ((t.put 0 (.string s)).put 3 (.int .i64 (Int.ofNat i))) σ kn kx kr =
      kth i s.data.toList fun b => kn ((((((t.put 0 (.string s)).put 3 (.int .i64 (Int.ofNat i))).put 11 (.string s)).put 12 (.int .i64 (Int.ofNat i))).put 13 (.int .u8 (Int.ofNat b.toNat))).put 4 (.int .u8 (Int.ofNat b.toNat))) σ)
    (h3c : ∀ (t : KT) (i : Nat) (σ : AS) (kn : KT → AS → KR), C3.run kc k (t.put 3 (.int .i64 (Int.ofNat i))) σ kn kx kr = kn ((((t.put 3 (.int .i64 (Int.ofNat i))).put 9 (.int .i64 (Int.ofNat i))).put 10 (.int .i64 (kwrapN .i64 (Nat.add i 1)))).put 3 (.int .i64 (kwrapN .i64 (Nat.add i 1)))) σ)
    (h5f : ∀ (t : KT) (σ : AS) (kn : KT → AS → KR) (kx : Nat → KT → AS → KR) (R : AS → KR), (∀ t' σ', Agree dstQ t t' → kn t' σ' = R σ') → C5.run kc k t σ kn kx kr = C5.run kc k t σ (fun t σ => (fun (_ _ : Value) (σ' : AS) => R σ') (t.get 0) (t.get 3) σ) kx (fun t σ => H (t.get 2) σ))
    (h5l : ∀ (n : Nat), n < 128 → ∀ (t : KT) (σ : AS) (R : AS → KR) (kx : Nat → KT → AS → KR), C5.run kc k (t.put 4 (.int .u8 (Int.ofNat n))) σ (fun t σ => (fun (_ _ : Value) (σ' : AS) => R σ') (t.get 0) (t.get 3) σ) kx (fun t σ => H (t.get 2) σ) = cond (okN n) (R σ) (H (.bool false) σ))
    (h5h : ∀ (d : Nat) (t : KT) (σ : AS) (R : AS → KR) (kx : Nat → KT → AS → KR), C5.run kc k (t.put 4 (.int .u8 (Int.ofNat (d + 128)))) σ (fun t σ => (fun (_ _ : Value) (σ' : AS) => R σ') (t.get 0) (t.get 3) σ) kx (fun t σ => H (t.get 2) σ) = H (.bool false) σ) :
    ∀ (n i : Nat) (t : KT) (σ : AS), 1 ≤ n → s.size + 2 ≤ i + n → i ≤ s.size → t.get 0 = .string s → t.get 3 = .int .i64 (Int.ofNat i) →
    kloop b kc k kx kr n t σ = cond (okFrom s n i) (X 0 (.string s) σ) (H (.bool false) σ) := by
  have hlen : s.data.toList.length = s.size := Array.length_toList
  intro n
  induction n with
  | zero => intro i t σ hn; omega
  | succ n ih =>
    intro i t σ hn hi hle h0 h3
    rw [kloop_succ, hb]
    generalize hL : kloop b kc k kx kr n = L at ih ⊢
    have hput : (t.put 0 (.string s)).put 3 (.int .i64 (Int.ofNat i)) = t := by rw [KT.put_eq h0, KT.put_eq h3]
    rw [← hput, h2, hput, hlen]
    simp only [okFrom]
    cases hb : Nat.ble (Nat.succ i) s.size with
    | false =>
      refine hkx _ _ ?_
      simp only [KT.get_put, Nat.reduceLT, Nat.reduceEqDiff, if_false]; exact h0
    | true =>
      have hlt : i < s.size := Nat.le_of_ble_eq_true hb
      have hg := get_at hlt
      generalize hc : s.get! i = c at hg
      simp only [cond_true]
      generalize hT2 : ((((t.put 5 (.int .i64 (Int.ofNat i))).put 6 (.string s)).put 7 (.int .i64 (Int.ofNat s.size))).put 8 (.bool true)) = T2
      have g0 : T2.get 0 = .string s := by rw [← hT2]; simp only [KT.get_put, Nat.reduceLT, Nat.reduceEqDiff, if_false]; exact h0
      have g3 : T2.get 3 = .int .i64 (Int.ofNat i) := by rw [← hT2]; simp only [KT.get_put, Nat.reduceLT, Nat.reduceEqDiff, if_false]; exact h3
      have hput2 : (T2.put 0 (.string s)).put 3 (.int .i64 (Int.ofNat i)) = T2 := by rw [KT.put_eq g0, KT.put_eq g3]
      rw [← hput2, h4, hput2, kth_eq hg]
      generalize hT4 : (((T2.put 11 (.string s)).put 12 (.int .i64 (Int.ofNat i))).put 13 (.int .u8 (Int.ofNat c.toNat))).put 4 (.int .u8 (Int.ofNat c.toNat)) = T4
      have k0 : T4.get 0 = .string s := by rw [← hT4]; simp only [KT.get_put, Nat.reduceLT, Nat.reduceEqDiff, if_false]; exact g0
      have k3 : T4.get 3 = .int .i64 (Int.ofNat i) := by rw [← hT4]; simp only [KT.get_put, Nat.reduceLT, Nat.reduceEqDiff, if_false]; exact g3
      have k4 : T4.get 4 = .int .u8 (Int.ofNat c.toNat) := by rw [← hT4, KT.get_put_eq _ _ (by decide)]
      have hwrap : kwrapN .i64 (Nat.add i 1) = Int.ofNat (i + 1) := by
        rw [kwrapN_eq]
        exact ktop_wrap (by show i + 1 < 9223372036854775808; have : s.size ≤ 140737488355328 := hs; omega)
      generalize hR : cond (okFrom s n (i + 1)) (X 0 (.string s)) (H (.bool false)) = R
      have hkn : ∀ t' σ', Agree dstQ T4 t' → C3.run kc k t' σ' L kx kr = R σ' := by
        intro t' σ' ha
        have e0 : t'.get 0 = .string s := by rw [ha 0 (by decide) (by decide)]; exact k0
        have e3 : t'.get 3 = .int .i64 (Int.ofNat i) := by rw [ha 3 (by decide) (by decide)]; exact k3
        rw [← KT.put_eq e3, h3c, KT.put_eq e3, hwrap]
        rw [ih (i + 1) _ σ' (by omega) (by omega) (by omega) (by simp only [KT.get_put, Nat.reduceLT, Nat.reduceEqDiff, if_false]; exact e0) (by rw [KT.get_put_eq _ _ (by decide)]), ← hR]
        cases okFrom s n (i + 1) <;> rfl
      rw [h5f T4 σ _ _ R hkn]
      have hR' : R σ = cond (okFrom s n (i + 1)) (X 0 (.string s) σ) (H (.bool false) σ) := by
        rw [← hR]; cases okFrom s n (i + 1) <;> rfl
      rcases Nat.lt_or_ge c.toNat 128 with h | h
      · have := h5l c.toNat h T4 σ R (fun i t σ => Bool.rec (motive := fun _ => KR) (kx i t σ) (C3.run kc k t σ L kx kr) (Nat.beq i 1))
        rw [KT.put_eq k4] at this
        rw [this, hR']
        cases okN c.toNat <;> rfl
      · obtain ⟨d, hd⟩ : ∃ d, c.toNat = d + 128 := ⟨c.toNat - 128, by omega⟩
        have := h5h d T4 σ R (fun i t σ => Bool.rec (motive := fun _ => KR) (kx i t σ) (C3.run kc k t σ L kx kr) (Nat.beq i 1))
        rw [← hd, KT.put_eq k4] at this
        rw [this, okN_high h]; rfl
theorem loopB (b C2 C3 C4 C5 : KCode) (kc : KCall) (k : Nat) (s : ByteArray) (hs : s.size ≤ capN) (X : Nat → Value → AS → KR) (H : Value → AS → KR) (kx : Nat → KT → AS → KR) (kr : KT → AS → KR) (hkx : ∀ t σ, t.get 0 = .string s → kx 0 t σ = X 0 (.string s) σ) (hkr : ∀ t σ, kr t σ = H (t.get 2) σ)
    (hb : ∀ t σ kn, b.run kc k t σ kn kx kr = C2.run kc k t σ (fun t σ => C4.run kc k t σ (fun t σ => C5.run kc k t σ (fun t σ => C3.run kc k t σ kn kx kr) (fun i t σ => Bool.rec (motive := fun _ => KR) (kx i t σ) (C3.run kc k t σ kn kx kr) (Nat.beq i 1)) kr)
      (fun i t σ => Bool.rec (motive := fun _ => KR) (kx i t σ) (C3.run kc k t σ kn kx kr) (Nat.beq i 1)) kr) kx kr)
    (h2 : ∀ (t : KT) (i : Nat) (σ : AS) (kn : KT → AS → KR), C2.run kc k ((t.put 0 (.string s)).put 3 (.int .i64 (Int.ofNat i))) σ kn kx kr =
      Bool.rec (kx 0 ((((((t.put 0 (.string s)).put 3 (.int .i64 (Int.ofNat i))).put 5 (.int .i64 (Int.ofNat i))).put 6 (.string s)).put 7 (.int .i64 (Int.ofNat s.data.toList.length))).put 8 (.bool (Nat.ble (Nat.succ i) s.data.toList.length))) σ)
      (kn ((((((t.put 0 (.string s)).put 3 (.int .i64 (Int.ofNat i))).put 5 (.int .i64 (Int.ofNat i))).put 6 (.string s)).put 7 (.int .i64 (Int.ofNat s.data.toList.length))).put 8 (.bool (Nat.ble (Nat.succ i) s.data.toList.length))) σ)
      (Nat.ble (Nat.succ i) s.data.toList.length))
    (h4 : ∀ (t : KT) (i : Nat) (σ : AS) (kn : KT → AS → KR) (kx : Nat → KT → AS → KR), C4.run kc k ((t.put 0 (.string s)).put 3 (.int .i64 (Int.ofNat i))) σ kn kx kr =
      kth i s.data.toList fun b => kn ((((((t.put 0 (.string s)).put 3 (.int .i64 (Int.ofNat i))).put 11 (.string s)).put 12 (.int .i64 (Int.ofNat i))).put 13 (.int .u8 (Int.ofNat b.toNat))).put 4 (.int .u8 (Int.ofNat b.toNat))) σ)
    (h3c : ∀ (t : KT) (i : Nat) (σ : AS) (kn : KT → AS → KR), C3.run kc k (t.put 3 (.int .i64 (Int.ofNat i))) σ kn kx kr = kn ((((t.put 3 (.int .i64 (Int.ofNat i))).put 9 (.int .i64 (Int.ofNat i))).put 10 (.int .i64 (kwrapN .i64 (Nat.add i 1)))).put 3 (.int .i64 (kwrapN .i64 (Nat.add i 1)))) σ)
    (h5f : ∀ (t : KT) (σ : AS) (kn : KT → AS → KR) (kx : Nat → KT → AS → KR) (R : AS → KR), (∀ t' σ', Agree dstQ t t' → kn t' σ' = R σ') → C5.run kc k t σ kn kx kr = C5.run kc k t σ (fun t σ => (fun (_ _ : Value) (σ' : AS) => R σ') (t.get 0) (t.get 3) σ) kx (fun t σ => H (t.get 2) σ))
    (h5l : ∀ n, n < 128 → q5P' C5 n)
    (h5h : q5H C5) :
    ∀ (n i : Nat) (t : KT) (σ : AS), 1 ≤ n → s.size + 2 ≤ i + n → i ≤ s.size → t.get 0 = .string s → t.get 3 = .int .i64 (Int.ofNat i) →
    kloop b kc k kx kr n t σ = cond (okFrom s n i) (X 0 (.string s) σ) (H (.bool false) σ) :=
  loopA b C2 C3 C4 C5 kc k s hs X H kx kr hkx hkr hb h2 h4 h3c h5f (fun n hn t σ R kx' => h5l n hn kc k t σ (fun (_ _ : Value) (σ' : AS) => R σ') H kx') (fun d t σ R kx' => h5h kc k t σ (fun (_ _ : Value) (σ' : AS) => R σ') H kx' d)
theorem body_of {E : Env} {N : Nat} (a d e f : Code) (kc : KCall) (k : Nat) (t : KT) (σ : AS) (kn : KT → AS → KR) (kx : Nat → KT → AS → KR) (kr : KT → AS → KR) :
    (kcode E N (.seq a (.seq (.block 1 (.seq d e)) f))).run kc k t σ kn kx kr = (kcode E N a).run kc k t σ (fun t σ => (kcode E N d).run kc k t σ (fun t σ => (kcode E N e).run kc k t σ (fun t σ => (kcode E N f).run kc k t σ kn kx kr) (fun i t σ => Bool.rec (motive := fun _ => KR) (kx i t σ) ((kcode E N f).run kc k t σ kn kx kr) (Nat.beq i 1)) kr)
      (fun i t σ => Bool.rec (motive := fun _ => KR) (kx i t σ) ((kcode E N f).run kc k t σ kn kx kr) (Nat.beq i 1)) kr) kx kr := rfl
theorem qbody (kc : KCall) (k : Nat) (t : KT) (σ : AS) (kn : KT → AS → KR) (kx : Nat → KT → AS → KR) (kr : KT → AS → KR) :
    (kcode E2 57 QL).run kc k t σ kn kx kr = (kcode E2 57 Q2).run kc k t σ (fun t σ => (kcode E2 57 Q4).run kc k t σ (fun t σ => (kcode E2 57 Q5).run kc k t σ (fun t σ => (kcode E2 57 Q3).run kc k t σ kn kx kr) (fun i t σ => Bool.rec (motive := fun _ => KR) (kx i t σ) ((kcode E2 57 Q3).run kc k t σ kn kx kr) (Nat.beq i 1)) kr)
      (fun i t σ => Bool.rec (motive := fun _ => KR) (kx i t σ) ((kcode E2 57 Q3).run kc k t σ kn kx kr) (Nat.beq i 1)) kr) kx kr := by
  have h := body_of (E := E2) (N := 57) Q2 Q4 Q5 Q3 kc k t σ kn kx kr
  rw [← shapeQL] at h
  exact h
theorem q5_frame (kc : KCall) (k : Nat) (H : Value → AS → KR) (kr : KT → AS → KR) (hkr : ∀ t σ, kr t σ = H (t.get 2) σ) (t : KT) (σ : AS) (kn : KT → AS → KR) (kx : Nat → KT → AS → KR) (R : AS → KR) (h : ∀ t' σ', Agree dstQ t t' → kn t' σ' = R σ') :
    (kcode E2 57 Q5).run kc k t σ kn kx kr = (kcode E2 57 Q5).run kc k t σ (fun t σ => (fun (_ _ : Value) (σ' : AS) => R σ') (t.get 0) (t.get 3) σ) kx (fun t σ => H (t.get 2) σ) :=
  kcode_frame E2 57 dstQ kc k t Q5 _ _ kx kx _ _ t σ inQ h (fun _ _ _ _ => rfl) (fun t' σ' _ => hkr t' σ') (Agree.refl _ _)
theorem loopQ (kc : KCall) (k : Nat) (s : ByteArray) (hs : s.size ≤ capN) (X : Nat → Value → AS → KR) (H : Value → AS → KR) (kx : Nat → KT → AS → KR) (kr : KT → AS → KR) (hkx : ∀ t σ, t.get 0 = .string s → kx 0 t σ = X 0 (.string s) σ) (hkr : ∀ t σ, kr t σ = H (t.get 2) σ) :
    ∀ (n i : Nat) (t : KT) (σ : AS), 1 ≤ n → s.size + 2 ≤ i + n → i ≤ s.size → t.get 0 = .string s → t.get 3 = .int .i64 (Int.ofNat i) →
    kloop (kcode E2 57 QL) kc k kx kr n t σ = cond (okFrom s n i) (X 0 (.string s) σ) (H (.bool false) σ) := by
  have hb := fun t σ kn => qbody kc k t σ kn kx kr
  have h2 := fun t i σ kn => q2 kc k t s i σ kn kx kr
  have h4 := fun t i σ kn kx' => q4 kc k t s i σ kn kx' kr
  have h3 := fun t i σ kn => q3 kc k t i σ kn kx kr
  have h5f := fun t σ kn kx' R h => q5_frame kc k H kr hkr t σ kn kx' R h
  exact loopB (kcode E2 57 QL) (kcode E2 57 Q2) (kcode E2 57 Q3) (kcode E2 57 Q4) (kcode E2 57 Q5) kc k s hs X H kx kr hkx hkr hb h2 h4 h3 h5f q5_low q5_high
theorem qc_nil (kc : KCall) (k : Nat) (t : KT) (σ : AS) (kn : KT → AS → KR) (kx : Nat → KT → AS → KR) (H : Value → AS → KR) : (kcode E2 57 QC).run kc k (t.put 0 (.string ⟨⟨[]⟩⟩)) σ kn kx (fun t σ => H (t.get 2) σ) = H (.bool false) σ := by kernel_rfl
theorem qc_cons (kc : KCall) (k : Nat) (t : KT) (a : UInt8) (r : List UInt8) (σ : AS) (kn : KT → AS → KR) (kx : Nat → KT → AS → KR) (H : Value → AS → KR) : (kcode E2 57 QC).run kc k (t.put 0 (.string ⟨⟨a :: r⟩⟩)) σ kn kx (fun t σ => H (t.get 2) σ) = H (.bool (Nat.ble (r.length + 1) 64)) σ := by kernel_rfl
theorem resQ (t : KT) (σ : AS) (K : Value → AS → KR) : (kres E2 Tryz.f14.results.toList).run t σ (fun l => K (resValue l) σ) = K (t.get 2) σ := by kernel_rfl
theorem slotQ : kslot E2 14 = kfunc E2 Tryz.f14 := by kernel_rfl
theorem startQ (s : ByteArray) (F : KT → KR) : kstart [.string s] 0 kt0 F = F (kt0.put 0 (.string s)) := by kernel_rfl
theorem qc_all (kc : KCall) (k : Nat) (s : ByteArray) (t : KT) (σ : AS) (h : t.get 0 = .string s) (kn : KT → AS → KR) (kx : Nat → KT → AS → KR) (H : Value → AS → KR) : (kcode E2 57 QC).run kc k t σ kn kx (fun t σ => H (t.get 2) σ) = H (.bool (Nat.ble 1 s.size && Nat.ble s.size 64)) σ := by
  obtain ⟨⟨l⟩⟩ := s
  cases l with
  | nil => rw [← KT.put_eq h, qc_nil]; rfl
  | cons a r =>
    rw [← KT.put_eq h, qc_cons]
    have e1 : (ByteArray.mk ⟨a :: r⟩).size = r.length + 1 := rfl
    have e2 : Nat.ble 1 (r.length + 1) = true := Nat.ble_eq_true_of_le (by omega)
    rw [e1, e2, Bool.true_and]
theorem refRight_k (m : Int) (s : ByteArray) (hs : s.size ≤ capN) (K : Value → AS → KR) : kcall E2 (s.size + 2) 14 [.string s] (VAbs.start m) K = K (.bool (rightB s)) (VAbs.start m) := by
  have h0 : kcall E2 (s.size + 2) 14 [.string s] (VAbs.start m) K = (kslot E2 14).run (kcall E2 (s.size + 1)) (s.size + 2) [.string s] (VAbs.start m) K := rfl
  rw [h0, slotQ]
  simp only [kfunc, shapeQ, startQ, kc_seq, kc_block, kc_loop]
  have hnt : Tryz.f14.ntmps = 57 := rfl
  simp only [hnt]
  simp only [resQ]
  rw [q0, q1, ← shapeQL]
  rw [loopQ (kcall E2 (s.size + 1)) (s.size + 2) s hs (fun _ _ σ => K (.bool (Nat.ble 1 s.size && Nat.ble s.size 64)) σ) K _ _ ?_ ?_ (s.size + 2) 0 _ _ (by omega) (by omega) (by omega) (by kernel_rfl) (by kernel_rfl)]
  · simp only [rightB]
    cases okFrom s (s.size + 2) 0 <;> rfl
  · intro t σ h; exact qc_all _ _ s t σ h _ _ K
  · intro t σ; rfl
theorem refRight_run (m : Int) (s : ByteArray) (hs : s.size ≤ capN) : ∃ k, (acall E2 k 14 [.string s] (VAbs.start m)).map (·.1) = some (.bool (rightB s)) := by
  refine ⟨s.size + 2, ?_⟩
  exact kcall_val (refRight_k m s hs (fun v' _ => some (v', (⟨.e, 0, []⟩ : AS))))
def fRef : List Value → Option Value
  | [.string s] => cond (Nat.ble s.size capN) (some (.bool (rightB s))) none
  | _ => none
def fRight : List Value → Option Value
  | [.string s] => some (.bool (rightB s))
  | _ => none
noncomputable def prims3 : Nat → Option (List Value → AS → Option (Value × AS))
  | 10 => some (pFun fRight)
  | 14 => some (pFun fRef)
  | 8 => some (pClosed (.bool true))
  | n => prims0 n
noncomputable def E3 : Env := Env.of Tryz.prog (oneGlob 0) prims3
theorem may_ok (prims : Nat → Option (List Value → AS → Option (Value × AS))) : PrimOk (Env.of Tryz.prog (oneGlob 0) prims) 21 (pFun fMay) := fun_ok ok0 rfl (by
  intro args v hcl h
  unfold fMay at h
  split at h
  · cases h; exact ⟨rfl, fun m => ⟨3000, may_run m _⟩⟩
  · cases h) rfl rfl
theorem ok2 : ProgOk E2 := by
  refine progOk_of mixed allOk ?_
  intro n g h
  unfold prims2 at h
  split at h
  · cases h; exact ⟨may_ok prims2, _, Tryz.func21, by kernel_rfl⟩
  · exact prims0_ok prims2 n g h
theorem right_ok (prims : Nat → Option (List Value → AS → Option (Value × AS))) : PrimOk (Env.of Tryz.prog (oneGlob 0) prims) 10 (pFun fRight) := fun_ok ok2 rfl (by
  intro args v hcl h
  unfold fRight at h
  split at h
  · cases h; exact ⟨rfl, fun m => right_run m _⟩
  · cases h) rfl rfl
theorem ref_ok (prims : Nat → Option (List Value → AS → Option (Value × AS))) : PrimOk (Env.of Tryz.prog (oneGlob 0) prims) 14 (pFun fRef) := fun_ok ok2 rfl (by
  intro args v hcl h
  unfold fRef at h
  split at h
  · rename_i s
    cases hb : Nat.ble s.size capN with
    | false => rw [hb] at h; cases h
    | true =>
      rw [hb] at h; cases h
      exact ⟨rfl, fun m => refRight_run m _ (Nat.le_of_ble_eq_true hb)⟩
  · cases h) rfl rfl
theorem ok3 : ProgOk E3 := by
  refine progOk_of mixed allOk ?_
  intro n g h
  unfold prims3 at h
  split at h
  · cases h; exact ⟨right_ok prims3, _, Tryz.func10, by kernel_rfl⟩
  · cases h; exact ⟨ref_ok prims3, _, Tryz.func14, by kernel_rfl⟩
  · cases h; exact ⟨closed_ok ok0 rfl rfl awake rfl rfl, _, Tryz.func8, by kernel_rfl⟩
  · exact prims0_ok prims3 n g h

/-- The reference's Right along a path: the text's size is one of the path's needs. -/
def pRef (args : List Value) (σ : AS) (q : OSt) : Option (Value × AS × OSt) :=
  match maxLenAt σ 0 with
  | some _ => match args with
    | [.string s] => some (.bool (rightB s), σ, need (Nat.ble s.size capN) q)
    | _ => none
  | none => none
noncomputable def pO24 : Nat → Option (List Value → AS → OSt → Option (Value × AS × OSt))
  | 14 => some pRef
  | _ => none
theorem sym24 (sym : Nat → Bool) (k : Nat) : VAbs.OSound (acall E3 k) (acallO E3 sym pO24 k) := by
  refine VAbs.acallO_ok (fun n g h => ?_) k
  unfold pO24 at h
  split at h
  · cases h
    refine ⟨pFun fRef, rfl, fun args σ q v σ' q' e hq => ?_⟩
    unfold pRef at e
    split at e
    · rename_i x hx
      split at e
      · rename_i s
        cases e
        obtain ⟨hb, hq'⟩ := need_holds hq
        refine ⟨?_, hq'⟩
        have hc : ([Value.string s]).all closed = true := rfl
        simp only [pFun, hx, hc, cond_true, fRef, hb]
      · cases e
    · cases e
  · cases h
def anSym : Nat → Bool
  | 3 | 4 | 5 | 6 | 7 | 9 | 11 | 12 | 20 => true
  | _ => false
-- The answers along the six paths (printed by wip/tools/Oracle.lean).
/-- all right -/
def oF : List Bool := [false, false, false, false, false, false, false, false, false, false, false, false, false, false, false, false, false, true, true, true, true, false, false, false, false, false, false, false, false, true, true, true, true, true, true, true, true, true, true, true, true, true, true]
/-- node bad, handle right -/
def oB : List Bool := [true, true, true, true, true, true, true, true, true, true, true, true, true, true, true, true, true, true, true, true, true, true, true, true, true, true, true, true, true, false, false, false, false, false, false, false, false, true, true, true, true, true, false, true, false, true, true, true, true, true, false, true, false, true, true]
/-- handle bad, node right -/
def oC : List Bool := [false, false, false, false, false, false, false, true, true, true, true, true, true, true, true, true, true, false, false, false, false, true, true, true, true, true, true, true, true, false, false, false, false, false, false, false, false, true, true, true, true, true, false, true, false, true, true, true, true, true, false, true, false, true, true]
/-- both bad -/
def oA : List Bool := [true, true, true, true, true, true, true, true, true, true, true, true, true, true, true, true, true, false, false, false, false, true, true, true, true, true, true, true, true, false, false, false, false, false, false, false, false, true, true, true, true, true, false, true, false, true, true, true, true, true, false, true, false, true, true]
/-- N < 1 -/
def oD : List Bool := [false, false, false, false, false, false, false, false, false, false, false, true, true, true, true, true, true, true, true, true, true, false, false, false, false, true, true, true, true, false, false, false, false, false, false, false, false, true, true, true, true, true, false, true, false, true, true, true, true, true, false, true, false, true, true]
/-- N > 4096 -/
def oE : List Bool := [false, false, false, false, false, false, false, false, false, false, false, false, false, false, false, true, true, true, true, true, true, false, false, false, false, false, false, false, false, false, false, false, false, false, false, false, false, true, true, true, true, true, false, true, false, true, true, true, true, true, false, true, false, true, true]
noncomputable def anRun (o : List Bool) (m : Int) (h n : ByteArray) (k : Int) (b : Bool) : Option (Go.Value × AS × OSt) := acallO E3 anSym pO24 3000 3 [.agg #[.string h, .string n, .int .i64 k, .bool b]] (VAbs.start m) ⟨o, []⟩
theorem vF (m : Int) (h n : ByteArray) (k : Int) (b : Bool) : VAbs.valOf (anRun oF m h n k b) = some (Go.Value.bool true) := by kernel_rfl
theorem vB (m : Int) (h n : ByteArray) (k : Int) (b : Bool) : VAbs.valOf (anRun oB m h n k b) = some (Go.Value.bool true) := by kernel_rfl
theorem vC (m : Int) (h n : ByteArray) (k : Int) (b : Bool) : VAbs.valOf (anRun oC m h n k b) = some (Go.Value.bool true) := by kernel_rfl
theorem vA (m : Int) (h n : ByteArray) (k : Int) (b : Bool) : VAbs.valOf (anRun oA m h n k b) = some (Go.Value.bool true) := by kernel_rfl
theorem vD (m : Int) (h n : ByteArray) (k : Int) (b : Bool) : VAbs.valOf (anRun oD m h n k b) = some (Go.Value.bool true) := by kernel_rfl
theorem vE (m : Int) (h n : ByteArray) (k : Int) (b : Bool) : VAbs.valOf (anRun oE m h n k b) = some (Go.Value.bool true) := by kernel_rfl
def mF : List Bool := [false, false, false, false, false, false, false, false, true, true, true, true, true, true, true, true, true, true, true, true, true, true, true, true, true, true, true, true, false, true, true, true, true, true, true, true, true, true, false, false, false, false, false, false, true, true]
theorem rF (m : Int) (h n : ByteArray) (k : Int) (b : Bool) : VAbs.maskAll mF (VAbs.condsOf (anRun oF m h n k b)) = true := by kernel_rfl
theorem pF (m : Int) (h n : ByteArray) (k : Int) (b : Bool) : VAbs.pickL mF (VAbs.condsOf (anRun oF m h n k b)) = [(!decide (k > 4096), true), (!decide (k > 4096), true), (!decide (k > 4096), true), (!decide (k > 4096), true), (!decide (k > 4096), true), (!decide (k > 4096), true), (decide (k < 1), false), (decide (k < 1), false), (decide (k < 1), false), (decide (k < 1), false), (!rightB n, false), (!rightB n, false), (!rightB n, false), (!rightB n, false), (rightB h, true), (Nat.ble n.size capN, true), (rightB h, true), (rightB h, true), (rightB h, true), (Nat.ble h.size capN, true), (decide (k > 4096), false), (decide (k < 1), false), (decide (k < 1), false), (decide (k < 1), false), (decide (k < 1), false), (!rightB h, false), (!rightB h, false), (!rightB h, false), (!rightB h, false), (decide (((5 + n.size : Nat) : Int) ≤ IntKind.i64.max), true), (!rightB n, false)] := by kernel_rfl
def mA : List Bool := [false, false, false, false, false, false, false, false, false, false, false, false, false, false, false, false, false, false, false, false, false, false, false, false, false, false, false, false, false, false, false, false, false, false, true, true, true, true, true, false, false, false, false, false, false, false, false, false, false, false, false, false, false, false, false, true]
theorem rA (m : Int) (h n : ByteArray) (k : Int) (b : Bool) : VAbs.maskAll mA (VAbs.condsOf (anRun oA m h n k b)) = true := by kernel_rfl
theorem pA (m : Int) (h n : ByteArray) (k : Int) (b : Bool) : VAbs.pickL mA (VAbs.condsOf (anRun oA m h n k b)) = [(rightB h, false), (rightB h, false), (rightB h, false), (rightB h, false), (Nat.ble h.size capN, true), (!rightB n, true)] := by kernel_rfl
def mB : List Bool := [false, false, false, false, false, false, false, false, false, false, false, false, false, false, false, false, false, false, false, false, false, false, false, false, false, false, false, false, false, false, true, true, true, true, true, true, true, true, true, true, false, false, false, false, false, false, false, false, false, false, false, false, false, false, false, false, true]
theorem rB (m : Int) (h n : ByteArray) (k : Int) (b : Bool) : VAbs.maskAll mB (VAbs.condsOf (anRun oB m h n k b)) = true := by kernel_rfl
theorem pB (m : Int) (h n : ByteArray) (k : Int) (b : Bool) : VAbs.pickL mB (VAbs.condsOf (anRun oB m h n k b)) = [(!rightB n, true), (!rightB n, true), (!rightB n, true), (!rightB n, true), (rightB h, true), (Nat.ble n.size capN, true), (rightB h, true), (rightB h, true), (rightB h, true), (Nat.ble h.size capN, true), (!rightB n, true)] := by kernel_rfl
def mC : List Bool := [false, false, false, false, false, false, false, false, false, false, false, false, false, false, false, false, false, false, false, false, false, false, false, false, false, false, false, false, false, false, false, false, false, false, true, true, true, true, true, false, false, false, false, false, false, true, true, true, true, false, false, false, false, false, false, true, true]
theorem rC (m : Int) (h n : ByteArray) (k : Int) (b : Bool) : VAbs.maskAll mC (VAbs.condsOf (anRun oC m h n k b)) = true := by kernel_rfl
theorem pC (m : Int) (h n : ByteArray) (k : Int) (b : Bool) : VAbs.pickL mC (VAbs.condsOf (anRun oC m h n k b)) = [(rightB h, false), (rightB h, false), (rightB h, false), (rightB h, false), (Nat.ble h.size capN, true), (!rightB h, true), (!rightB h, true), (!rightB h, true), (!rightB h, true), (decide (((5 + n.size : Nat) : Int) ≤ IntKind.i64.max), true), (!rightB n, false)] := by kernel_rfl
def mD : List Bool := [false, false, false, false, false, false, false, false, false, false, false, false, false, false, false, false, false, false, false, false, false, false, false, false, false, false, true, true, true, true, true, true, true, true, true, true, true, true, true, true, false, false, true, true, true, true, true, true, true, true, false, false, false, false, false, false, true, true]
theorem rD (m : Int) (h n : ByteArray) (k : Int) (b : Bool) : VAbs.maskAll mD (VAbs.condsOf (anRun oD m h n k b)) = true := by kernel_rfl
theorem pD (m : Int) (h n : ByteArray) (k : Int) (b : Bool) : VAbs.pickL mD (VAbs.condsOf (anRun oD m h n k b)) = [(decide (k < 1), true), (decide (k < 1), true), (decide (k < 1), true), (decide (k < 1), true), (!rightB n, false), (!rightB n, false), (!rightB n, false), (!rightB n, false), (rightB h, true), (Nat.ble n.size capN, true), (rightB h, true), (rightB h, true), (rightB h, true), (Nat.ble h.size capN, true), (decide (k < 1), true), (decide (k < 1), true), (decide (k < 1), true), (decide (k < 1), true), (!rightB h, false), (!rightB h, false), (!rightB h, false), (!rightB h, false), (decide (((5 + n.size : Nat) : Int) ≤ IntKind.i64.max), true), (!rightB n, false)] := by kernel_rfl
def mE : List Bool := [false, false, false, false, false, false, false, false, false, false, false, true, false, true, true, true, true, true, false, false, true, true, true, true, true, true, true, true, true, true, true, true, true, true, true, true, true, true, true, true, false, true, true, true, true, true, true, true, true, true, false, false, false, false, false, false, true, true]
theorem rE (m : Int) (h n : ByteArray) (k : Int) (b : Bool) : VAbs.maskAll mE (VAbs.condsOf (anRun oE m h n k b)) = true := by kernel_rfl
theorem pE (m : Int) (h n : ByteArray) (k : Int) (b : Bool) : VAbs.pickL mE (VAbs.condsOf (anRun oE m h n k b)) = [(decide (k > 4096), true), (decide (k > 4096), true), (decide (k > 4096), true), (decide (k > 4096), true), (decide (k > 4096), true), (decide (k > 4096), true), (!decide (k > 4096), false), (!decide (k > 4096), false), (!decide (k > 4096), false), (!decide (k > 4096), false), (!decide (k > 4096), false), (!decide (k > 4096), false), (decide (k < 1), false), (decide (k < 1), false), (decide (k < 1), false), (decide (k < 1), false), (!rightB n, false), (!rightB n, false), (!rightB n, false), (!rightB n, false), (rightB h, true), (Nat.ble n.size capN, true), (rightB h, true), (rightB h, true), (rightB h, true), (Nat.ble h.size capN, true), (decide (k > 4096), true), (decide (k < 1), false), (decide (k < 1), false), (decide (k < 1), false), (decide (k < 1), false), (!rightB h, false), (!rightB h, false), (!rightB h, false), (!rightB h, false), (decide (((5 + n.size : Nat) : Int) ≤ IntKind.i64.max), true), (!rightB n, false)] := by kernel_rfl
theorem anHolds (m : Int) (h n : ByteArray) (k : Int) (b : Bool) (wh : h.size ≤ capN) (wn : n.size ≤ capN) : (acall E3 3000 3 [.agg #[.string h, .string n, .int .i64 k, .bool b]] (VAbs.start m)).map (·.1) = some (.bool true) := by
  have e1 := Nat.ble_eq_true_of_le wh
  have e2 := Nat.ble_eq_true_of_le wn
  have hm : IntKind.i64.max = 9223372036854775807 := by decide
  have wn' : n.size ≤ 140737488355328 := wn
  have e3 : decide (((5 + n.size : Nat) : Int) ≤ IntKind.i64.max) = true := by rw [hm]; exact decide_eq_true (by omega)
  have all : ∀ {o M : List Bool} {L : List (Bool × Bool)}, VAbs.valOf (anRun o m h n k b) = some (Go.Value.bool true) → VAbs.maskAll M (VAbs.condsOf (anRun o m h n k b)) = true → VAbs.pickL M (VAbs.condsOf (anRun o m h n k b)) = L → (∀ p ∈ L, p.1 = p.2) → (acall E3 3000 3 [.agg #[.string h, .string n, .int .i64 k, .bool b]] (VAbs.start m)).map (·.1) = some (.bool true) := by
    intro o M L hv hr hp hL
    refine VAbs.path_ok (sym24 anSym 3000) M hv hr fun p hq => ?_
    have hq' : p ∈ VAbs.pickL M (VAbs.condsOf (anRun o m h n k b)) := hq
    rw [hp] at hq'
    exact hL p hq'
  cases hn : rightB n with
  | false =>
    cases hh : rightB h with
    | false => exact all (vA m h n k b) (rA m h n k b) (pA m h n k b) (by simp [hn, hh, e1, e2])
    | true => exact all (vB m h n k b) (rB m h n k b) (pB m h n k b) (by simp [hn, hh, e1, e2])
  | true =>
    cases hh : rightB h with
    | false => exact all (vC m h n k b) (rC m h n k b) (pC m h n k b) (by simp only [hn, hh, e1, e2, e3]; simp)
    | true =>
      cases k1 : decide (k < 1) with
      | true => exact all (vD m h n k b) (rD m h n k b) (pD m h n k b) (by simp only [hn, hh, e1, e2, e3, k1]; simp)
      | false =>
        cases k2 : decide (k > 4096) with
        | true => exact all (vE m h n k b) (rE m h n k b) (pE m h n k b) (by simp only [hn, hh, e1, e2, e3, k1, k2]; simp)
        | false => exact all (vF m h n k b) (rF m h n k b) (pF m h n k b) (by simp only [hn, hh, e1, e2, e3, k1, k2]; simp)
theorem own : ownKnob Tryz.prog.godebug = none := by kernel_rfl
set_option maxRecDepth 100000 in
theorem lifted (os : Os) (started : os.Started) (H : Type) (enc : TypeId × Value → H) :
    ReturnsInHanded {} Tryz.checked os 3 .any (fun w args => (Rows.autoNilSpec.pre enc Tryz.prog Tryz.f3 Rows.autoNilRow.domain false w args ∧ laidMetH Tryz.prog Rows.autoNilRow.laid w) ∧ sizedMet enc Tryz.prog Tryz.f3 (OpenSpec.ofChange Rows.autoNilSpec) false w args)
      (Rows.autoNilSpec.post enc Tryz.prog Tryz.f3 false true false false) := by
  refine VAbs.handed_shaped (C := Tryz.checked) (X := fun w _ => laidMetH Tryz.prog Rows.autoNilRow.laid w) (fun _ _ _ hh h => h.of_heap hh) own started (by kernel_rfl) Tryz.func3
    (ChangeSpec.witness_shaped (enc := enc) (C := Tryz.checked) (os := os) (X := fun w _ => laidMetH Tryz.prog Rows.autoNilRow.laid w) false (World.laidAll Tryz.prog os Rows.autoNilRow.laid) #[Go.Value.agg #[.string ByteArray.empty, .string ByteArray.empty, .int .i64 0, .bool false]] 8 (World.laidAll_os _ _ _)
      (World.shaped_of_ZipB (by kernel_rfl) (by kernel_rfl)) (by kernel_rfl) (by kernel_rfl) (by kernel_rfl)
      (by rw [MakeChecks.laidMetH_plain _ _ _ (by kernel_rfl)]; exact laidMet_laidAll _ (by kernel_rfl) (by kernel_rfl))) ?_
  intro W base args ds gs before hsh hval0 hW hsz0
  have hsz : (DataW.weightsEach Tryz.prog (Tryz.f3.params.toList ++ Rows.autoNilSpec.plain.varTypes Tryz.prog) (ds ++ gs)).all (· ≤ reachBytes) = true := hsz0
  have hval : ∀ (j : Nat) t v, Tryz.f3.params[j]? = some t → args[j]? = some v → Value.okWide Tryz.prog W .any base t v := hval0
  have hlt := hW.lt
  have hW' := hW
  obtain ⟨p, q, hA0, hV, rfl, hfz, hnd⟩ := hW
  have hA : DataW.TrodAll enc Tryz.prog W 0 (fun _ => true) true Tryz.f3.params.toList args.toList ds p := hA0
  have hAall := hA
  rw [Tryz.params3] at hA hval hsz
  obtain ⟨v0, vs0, d0, ds0, p0, q0, hargs, rfl, rfl, h0, r0⟩ := trodAll_cons hA
  obtain ⟨rfl, rfl, rfl⟩ := trodAll_nil r0
  obtain rfl : args = #[v0] := by cases args; simp_all
  obtain ⟨rfl, rfl⟩ := trodVars_none hV
  have hcalls : Calls Tryz.prog 3 #[v0] W fun e w' => e = .returned (.bool true) ∧ Below W.heap.size W w' := by
    obtain ⟨m, hm⟩ : ∃ m, W.cell? ⟨0, 0, none⟩ = some (.int .i64 m) :=
      cell_of_shapedOpen_int (t := 3) (zero := #[.int .i64 0]) hsh (of_decide_eq_true (by kernel_rfl)) (by kernel_rfl) rfl (by kernel_rfl) (by kernel_rfl) Tryz.underlying3
    obtain ⟨cs, rfl, hsz1, hcell⟩ := VAbs.okWide_struct Tryz.underlying25 (ts := [9, 9, 3, 4]) (by kernel_rfl) (by kernel_rfl) (hval 0 25 v0 rfl rfl)
    obtain ⟨a0, a1, a2, a3, rfl⟩ : ∃ a0 a1 a2 a3, cs = #[a0, a1, a2, a3] := by
      obtain ⟨l⟩ := cs
      match l, hsz1 with
      | [a0, a1, a2, a3], _ => exact ⟨a0, a1, a2, a3, rfl⟩
    obtain ⟨k0, rfl⟩ := VAbs.cell_string Tryz.underlying9 (hcell 0 a0 9 rfl rfl)
    obtain ⟨k1, rfl⟩ := VAbs.cell_string Tryz.underlying9 (hcell 1 a1 9 rfl rfl)
    obtain ⟨k2, rfl⟩ := VAbs.cell_int Tryz.underlying3 (hcell 2 a2 3 rfl rfl)
    obtain ⟨k3, rfl⟩ := VAbs.cell_bool Tryz.underlying4 (hcell 3 a3 4 rfl rfl)
    have w0 : k0.size ≤ capN ∧ k1.size ≤ capN := by
      obtain ⟨fuel, hf⟩ := h0
      obtain ⟨y0, y1, y2, n, e0, hl, f0, f1, f2⟩ := Go.Deep.trod_struct3 Tryz.underlying25 hf
      obtain ⟨z0, z1, n', e1, hl1, g0, g1⟩ := trod_struct2 Tryz.underlying23 f0
      obtain ⟨s0, c0, rfl, _⟩ := DataW.trod_string Tryz.underlying9 g0
      obtain ⟨s1, c1, rfl, _⟩ := DataW.trod_string Tryz.underlying9 g1
      have q0 : [Value.string k0] = [Value.string s0] := by
        refine Eq.trans ?_ c0
        kernel_rfl
      have q1 : [Value.string k1] = [Value.string s1] := by
        refine Eq.trans ?_ c1
        kernel_rfl
      obtain rfl : k0 = s0 := by simpa using q0
      obtain rfl : k1 = s1 := by simpa using q1
      subst e1
      obtain ⟨rfl, rfl⟩ := Prod.mk.inj e0
      have h47 : (2 : Nat) ^ 47 = 140737488355328 := by decide
      have hr := reachBytes_lt
      have b0 := of_decide_eq_true (List.all_eq_true.1 hsz k0.data.toList.length (DataW.weights_mem_each (j := 0) (t := 25) rfl rfl _ (by simp [DataW.weights, DataW.weightsEach, Tryz.underlying25, Tryz.underlying23])))
      have b1 := of_decide_eq_true (List.all_eq_true.1 hsz k1.data.toList.length (DataW.weights_mem_each (j := 0) (t := 25) rfl rfl _ (by simp [DataW.weights, DataW.weightsEach, Tryz.underlying25, Tryz.underlying23])))
      rw [Array.length_toList] at b0 b1
      have hc : capN = 140737488355328 := rfl
      refine ⟨?_, ?_⟩
      · show k0.data.size ≤ _
        omega
      · show k1.data.size ≤ _
        omega
    exact VAbs.law_calls ok3 (gM := 0) rfl rfl (by intro x hx; obtain rfl := List.mem_singleton.1 hx; rfl) hm (VAbs.cells_of_cell hm) (anHolds m k0 k1 k2 k3 w0.1 w0.2)
  refine hcalls.mono fun e W' ⟨he, bel⟩ => ?_
  subst he
  exact ⟨_, rfl, _, _, _, [], _, [], hW', trodAll_mk1 (shut_bool Tryz.underlying4 _), VAbs.trodAll_below (by kernel_rfl) bel (by kernel_rfl) hAall (fun x hx => hlt x (List.mem_append_left _ hx)), rfl, bel.frame _, fun h => by cases h⟩
theorem said : Rows.AutoNilSaid :=
  OpenClaim.holds_of_wide 3 Tryz.f3 rfl rfl rfl rfl rfl rfl rfl ⟨rfl, rfl, rfl, rfl, rfl⟩ rfl rfl rfl rfl rfl (by kernel_rfl) Tryz.func3 (by kernel_rfl)
    (of_decide_eq_true (by kernel_rfl)) (by unfold Func.isWrapper; first | (rw [if_pos (by decide +kernel)]; kernel_rfl) | (rw [if_neg (by decide +kernel)]; exact ⟨rfl, rfl⟩))
    (fun os started H enc _ => lifted os started H enc)
theorem autoNil_holds : Rows.AutoNilCardSaid :=
  Claim7.holds_tied_plain_at .later [] _ _ _ _ said (fun _ h => by cases h) (by kernel_rfl) (fun _ h => by cases h) autoNil_row_tie rfl ⟨rfl, rfl⟩ (by kernel_rfl) rfl
    (fun f fn hf hfn => by
      obtain rfl : f = 3 := Option.some.inj ((show Tryz.prog.funcNamed "virgate/virgatelaw24.AutoNil" = some 3 by kernel_rfl).symm.trans hf) |>.symm
      obtain rfl : fn = Tryz.f3 := (Option.some.inj (Tryz.func3.symm.trans hfn)).symm
      exact ⟨by kernel_rfl, fun j t ht => by
        rw [Tryz.params3] at ht
        have hm : t ∈ [25] := by simpa using Array.mem_of_getElem? ht
        have hall : ([25].all fun u => !Tryz.prog.wantsStandIn u) = true := by kernel_rfl
        exact (show Tryz.prog.wantsStandIn t = false by simpa using List.all_eq_true.1 hall t hm)⟩)
    (by kernel_rfl)
#print axioms autoNil_holds
end Go.Proofs.YtdjackjmbcldhaaGreatDoor
