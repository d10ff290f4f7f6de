/- AdminNil returns true for every act: with a procedure that is not there nothing happens, and what may not be is refused at once. -/
import Derived.Test.YtmeaipadifoaeaaGreatDoorTie
import Derived.Test.YtmeaipadifoaeaaGreatDoorCards
import Derived.Test.YtmeaipadifoaeaaGreatDoorEnv
import Derived.ProofKit
import Derived.OpenShut
import Derived.ShutString
import Derived.ChangeSame
import Derived.Deep.Strs
import Derived.ChangeOld
import Derived.LaidMore
import Derived.Lay
import Derived.SevenTiedAt
import Derived.Stop.Joined
import Derived.Shelf.Vars
import Derived.KernelRfl
namespace Go.Proofs.YtmeaipadifoaeaaGreatDoor
open Go Go.VAbs Go.RowKit Go.ChangeShapes Go.WideShapes Go.ChangeAt
open Go.ChangeMaps (open_string shut_string)
set_option linter.unusedVariables false
set_option linter.unusedSimpArgs false
set_option maxRecDepth 1000000
theorem awakeK : ∀ m : Int, kval E0 3000 7 [] (VAbs.start m) = some (.bool true) := by
  intro m
  kernel_rfl
theorem awake (m : Int) : (acall E0 3000 7 [] (VAbs.start m)).map (·.1) = some (.bool true) := kval_ok (awakeK m)
def okN (n : Nat) : Bool := (Nat.ble 97 n && Nat.ble n 122) || (Nat.ble 65 n && Nat.ble n 90) || (Nat.ble 48 n && Nat.ble n 57) || Nat.beq n 46 || Nat.beq n 45 || Nat.beq n 95
noncomputable def mayAt (m : Int) (n : Nat) : Bool := match kval E0 3000 149 [.int .i32 (Int.ofNat n)] (VAbs.start m) with
  | some (.bool b) => cond (okN n) b (!b)
  | _ => false
theorem may_small (m : Int) : upTo (mayAt m) 128 = true := by kernel_rfl
theorem may_large (m : Int) (d : Nat) : kval E0 3000 149 [.int .i32 (Int.ofNat (d + 128))] (VAbs.start m) = some (.bool false) := by kernel_rfl
theorem okN_large (d : Nat) : okN (d + 128) = false := by kernel_rfl
def fMay : List Value → Option Value
  | [.int .i32 (.ofNat n)] => some (.bool (okN n))
  | _ => none
theorem may_run (m : Int) (n : Nat) : (acall E0 3000 149 [.int .i32 (Int.ofNat n)] (VAbs.start m)).map (·.1) = some (.bool (okN n)) := by
  apply kval_ok
  rcases (show n < 128 ∨ ∃ d, n = d + 128 from (Nat.lt_or_ge n 128).imp id fun h => ⟨n - 128, by omega⟩) with h | ⟨d, rfl⟩
  · have := upTo_ok (may_small m) n h
    unfold mayAt at this
    split at this
    · rename_i b hb
      rw [hb]
      congr 2
      cases hk : okN n <;> rw [hk] at this <;> cases b <;> first | rfl | cases this
    · cases this
  · rw [okN_large]; exact may_large m d

noncomputable def prims2 : Nat → Option (List Value → AS → Option (Value × AS))
  | 149 => some (pFun fMay)
  | n => prims0 n
noncomputable def E2 : Env := Env.of Tryz.prog (oneGlob 0) prims2
noncomputable def b112 : Code := (Tryz.f121.body).getD .skip
noncomputable def R0 : Code := cA b112
noncomputable def R1 : Code := cA (cA (cB b112))
noncomputable def LB : Code := cA (cA (cB (cA (cB b112))))
noncomputable def CC : Code := cB (cB b112)
theorem shape112 : Tryz.f121.body = some (.seq R0 (.seq (.seq R1 (.block 0 (.loop LB))) CC)) := by kernel_rfl
theorem fn112 : E2.fn 121 = some Tryz.f121 := by kernel_rfl
theorem r0 (kc : KCall) (k : Nat) (t : KT) (σ : AS) (kn : KT → AS → KR) (kx : Nat → KT → AS → KR) (kr : KT → AS → KR) : (kcode E2 20 R0).run kc k t σ kn kx kr = kn (t.put 2 (.bool false)) σ := by kernel_rfl
theorem r1 (kc : KCall) (k : Nat) (t : KT) (s : ByteArray) (σ : AS) (kn : KT → AS → KR) (kx : Nat → KT → AS → KR) (kr : KT → AS → KR) : (kcode E2 20 R1).run kc k (t.put 0 (.string s)) σ kn kx kr = kn (((t.put 0 (.string s)).put 5 (.string s)).put 6 (.pointer (some ⟨σ.next, 0, none⟩))) (σ.alloc (.iter s 0)) := by kernel_rfl
noncomputable def hs (m : Int) (s : ByteArray) (p : Nat) (ws : List Nat) : AS := { heap := ((VAbs.start m).heap.set 1 (.iter s p)), next := 2, ws := ws }
theorem lb (m : Int) (kk : Nat) (k : Nat) (t : KT) (s : ByteArray) (p : Nat) (ws : List Nat) (kn : KT → AS → KR) (kx : Nat → KT → AS → KR) (kr : KT → AS → KR) :
    (kcode E2 20 LB).run (kcall E2 (kk + 1)) k ((t.put 0 (.string s)).put 6 (.pointer (some ⟨1, 0, none⟩))) (hs m s p ws) kn kx kr = 
    Bool.rec (kx 0 ((((t.put 0 (.string s)).put 6 (.pointer (some ⟨1, 0, none⟩))).put 7 (.tuple #[.bool false])).put 8 (.bool false)) (hs m s p ws))
     (Bool.rec
       (kn (((((((((t.put 0 (.string s)).put 6 (.pointer (some ⟨1, 0, none⟩))).put 7 (.tuple #[.bool true, .int .i64 (Int.ofNat p), .int .i32 (Int.ofNat (Utf8.decode s p).1)])).put 8 (.bool true)).put 9 (.int .i32 (Int.ofNat (Utf8.decode s p).1))).put 4 (.int .i32 (Int.ofNat (Utf8.decode s p).1))).put 10 (.int .i32 (Int.ofNat (Utf8.decode s p).1))).put 11 (.bool (okN (Utf8.decode s p).1))).put 12 (.bool (Bool.rec true false (okN (Utf8.decode s p).1)))) (hs m s (Nat.add p (Utf8.decode s p).2) (1 :: ws)))
       (kr ((((((((((t.put 0 (.string s)).put 6 (.pointer (some ⟨1, 0, none⟩))).put 7 (.tuple #[.bool true, .int .i64 (Int.ofNat p), .int .i32 (Int.ofNat (Utf8.decode s p).1)])).put 8 (.bool true)).put 9 (.int .i32 (Int.ofNat (Utf8.decode s p).1))).put 4 (.int .i32 (Int.ofNat (Utf8.decode s p).1))).put 10 (.int .i32 (Int.ofNat (Utf8.decode s p).1))).put 11 (.bool (okN (Utf8.decode s p).1))).put 12 (.bool (Bool.rec true false (okN (Utf8.decode s p).1)))).put 2 (.bool false)) (hs m s (Nat.add p (Utf8.decode s p).2) (1 :: ws)))
       (Bool.rec true false (okN (Utf8.decode s p).1))) (Nat.ble (Nat.succ p) s.size) := by kernel_rfl

def goodF (s : ByteArray) : Nat → Nat → Bool
  | 0, _ => true
  | n + 1, p => cond (Nat.ble (Nat.succ p) s.size) (cond (okN (Utf8.decode s p).1) (goodF s n (Nat.add p (Utf8.decode s p).2)) false) true
theorem loopR (m : Int) (s : ByteArray) (kk k : Nat) (kx : Nat → KT → AS → KR) (kr : KT → AS → KR) : ∀ (n p : Nat) (t : KT) (ws : List Nat), 1 ≤ n → s.size + 2 ≤ p + n → t.get 0 = .string s → t.get 6 = .pointer (some ⟨1, 0, none⟩) →
    (goodF s n p = true ∧ ∃ t' σ', kloop (kcode E2 20 LB) (kcall E2 (kk + 1)) k kx kr n t (hs m s p ws) = kx 0 t' σ' ∧ t'.get 0 = .string s) ∨
    (goodF s n p = false ∧ ∃ t' σ', kloop (kcode E2 20 LB) (kcall E2 (kk + 1)) k kx kr n t (hs m s p ws) = kr t' σ' ∧ t'.get 2 = .bool false) := by
  intro n
  induction n with
  | zero => 
    intro p t ws hn hp h0 h6; omega
  | succ n ih =>
    intro p t ws hn hp h0 h6
    have hunf : kloop (kcode E2 20 LB) (kcall E2 (kk + 1)) k kx kr (n + 1) t (hs m s p ws) = (kcode E2 20 LB).run (kcall E2 (kk + 1)) k t (hs m s p ws) (kloop (kcode E2 20 LB) (kcall E2 (kk + 1)) k kx kr n) kx kr := rfl
    rw [hunf]
    have hput : (t.put 0 (.string s)).put 6 (.pointer (some ⟨1, 0, none⟩)) = t := by rw [KT.put_eq h0, KT.put_eq h6]
    have hb := lb m kk k t s p ws (kloop (kcode E2 20 LB) (kcall E2 (kk + 1)) k kx kr n) kx kr
    rw [hput] at hb
    rw [hb]
    simp only [goodF]
    cases h1 : Nat.ble (Nat.succ p) s.size with
    | false =>
      refine .inl ⟨rfl, _, _, rfl, ?_⟩
      rw [KT.get_put_ne _ _ (by decide) (by decide) (by decide), KT.get_put_ne _ _ (by decide) (by decide) (by decide)]; exact h0
    | true =>
      cases h2 : okN (Utf8.decode s p).1 with
      | false =>
        refine .inr ⟨rfl, _, _, rfl, ?_⟩
        rw [KT.get_put_eq _ _ (by decide)]
      | true =>
        have hw := VAbs.decode_pos s p
        have h1' := Nat.le_of_ble_eq_true h1
        have hq : s.size + 2 ≤ Nat.add p (Utf8.decode s p).2 + n := by show s.size + 2 ≤ p + (Utf8.decode s p).2 + n; omega
        refine ih _ _ _ (by omega) hq ?_ ?_
        · simp only [KT.get_put, Nat.reduceLT, Nat.reduceEqDiff, if_false]; exact h0
        · simp only [KT.get_put, Nat.reduceLT, Nat.reduceEqDiff, if_false]; exact h6

theorem okN_high {n : Nat} (h : 128 ≤ n) : okN n = false := by
  obtain ⟨d, rfl⟩ : ∃ d, n = d + 128 := ⟨n - 128, by omega⟩
  exact okN_large d
def okFrom (s : ByteArray) : Nat → Nat → Bool
  | 0, _ => true
  | n + 1, p => cond (Nat.ble (Nat.succ p) s.size) (cond (okN (s.get! p).toNat) (okFrom s n (p + 1)) false) true
theorem goodF_eq (s : ByteArray) : ∀ n p, goodF s n p = okFrom s n p
  | 0, _ => rfl
  | n + 1, p => by
    simp only [goodF, okFrom]
    cases Nat.ble (Nat.succ p) s.size with
    | false => rfl
    | true =>
      simp only [cond_true]
      rcases Nat.lt_or_ge (s.get! p).toNat 128 with h | h
      · rw [VAbs.decode_low h]
        cases okN (s.get! p).toNat with
        | false => rfl
        | true => exact goodF_eq s n (p + 1)
      · rw [okN_high h, okN_high (VAbs.decode_high h)]; rfl

theorem cc_nil (kc : KCall) (k : Nat) (t : KT) (σ : AS) (kn : KT → AS → KR) (kx : Nat → KT → AS → KR) (kr : KT → AS → KR) : (kcode E2 20 CC).run kc k (t.put 0 (.string ⟨⟨[]⟩⟩)) σ kn kx kr = kr (((((((((t.put 0 (.string ⟨⟨[]⟩⟩)).put 13 (.string ⟨⟨[]⟩⟩)).put 14 (.bool false)).put 15 (.bool false)).put 16 undef).put 17 undef).put 18 undef).put 19 (.bool false)).put 2 (.bool false)) σ := by kernel_rfl
theorem cc_cons (kc : KCall) (k : Nat) (t : KT) (a : UInt8) (r : List UInt8) (σ : AS) (kn : KT → AS → KR) (kx : Nat → KT → AS → KR) (kr : KT → AS → KR) : (kcode E2 20 CC).run kc k (t.put 0 (.string ⟨⟨a :: r⟩⟩)) σ kn kx kr = kr (((((((((t.put 0 (.string ⟨⟨a :: r⟩⟩)).put 13 (.string ⟨⟨a :: r⟩⟩)).put 14 (.bool true)).put 15 (.bool true)).put 16 (.string ⟨⟨a :: r⟩⟩)).put 17 (.int .i64 (Int.ofNat (r.length + 1)))).put 18 (.bool (Nat.ble (r.length + 1) 64))).put 19 (.bool (Nat.ble (r.length + 1) 64))).put 2 (.bool (Nat.ble (r.length + 1) 64))) σ := by kernel_rfl
theorem res112 (t : KT) (σ : AS) (K : Value → AS → KR) : (kres E2 Tryz.f121.results.toList).run t σ (fun l => K (resValue l) σ) = K (t.get 2) σ := by kernel_rfl
theorem slot112 : kslot E2 121 = kfunc E2 Tryz.f121 := by kernel_rfl
theorem start112 (s : ByteArray) (F : KT → KR) : kstart [.string s] 0 kt0 F = F (kt0.put 0 (.string s)) := by kernel_rfl
def rightB (s : ByteArray) : Bool := okFrom s (s.size + 2) 0 && (Nat.ble 1 s.size && Nat.ble s.size 64)
theorem right_k (m : Int) (s : ByteArray) (K : Value → AS → KR) : ∃ σ', kcall E2 (s.size + 2) 121 [.string s] (VAbs.start m) K = K (.bool (rightB s)) σ' := by
  have h0 : kcall E2 (s.size + 2) 121 [.string s] (VAbs.start m) K = (kslot E2 121).run (kcall E2 (s.size + 1)) (s.size + 2) [.string s] (VAbs.start m) K := rfl
  rw [h0, slot112]
  simp only [kfunc, shape112, start112, kc_seq, kc_block, kc_loop]
  have hnt : Tryz.f121.ntmps = 20 := rfl
  simp only [hnt]
  rw [r0]
  have hcomm : (kt0.put 0 (.string s)).put 2 (.bool false) = (kt0.put 2 (.bool false)).put 0 (.string s) := by kernel_rfl
  rw [hcomm, r1]
  have hσ : (VAbs.start m).alloc (.iter s 0) = hs m s 0 [] := by kernel_rfl
  rw [hσ]
  have hnx : (VAbs.start m).next = 1 := rfl
  rw [hnx]
  have e0 : ((((kt0.put 2 (.bool false)).put 0 (.string s)).put 5 (.string s)).put 6 (.pointer (some ⟨1, 0, none⟩))).get 0 = .string s := by kernel_rfl
  have e6 : ((((kt0.put 2 (.bool false)).put 0 (.string s)).put 5 (.string s)).put 6 (.pointer (some ⟨1, 0, none⟩))).get 6 = .pointer (some ⟨1, 0, none⟩) := by kernel_rfl
  rcases loopR m s s.size (s.size + 2) (fun i t σ => Bool.rec (motive := fun _ => KR) (none) ((kcode E2 20 CC).run (kcall E2 (s.size + 1)) (s.size + 2) t σ (fun t σ' => (kres E2 Tryz.f121.results.toList).run t σ' fun l => K (resValue l) σ') (fun _ _ _ => none) (fun t σ' => (kres E2 Tryz.f121.results.toList).run t σ' fun l => K (resValue l) σ')) (Nat.beq i 0)) (fun t σ' => (kres E2 Tryz.f121.results.toList).run t σ' fun l => K (resValue l) σ') (s.size + 2) 0 _ [] (by omega) (by omega) e0 e6 with ⟨hg, t', σ', h1, h2⟩ | ⟨hg, t', σ', h1, h2⟩
  · rw [h1]
    rw [goodF_eq] at hg
    simp only [rightB, hg, Bool.true_and]
    refine ⟨σ', ?_⟩
    show (kcode E2 20 CC).run (kcall E2 (s.size + 1)) (s.size + 2) t' σ' (fun t σ' => (kres E2 Tryz.f121.results.toList).run t σ' fun l => K (resValue l) σ') (fun _ _ _ => none) (fun t σ' => (kres E2 Tryz.f121.results.toList).run t σ' fun l => K (resValue l) σ') = _
    obtain ⟨⟨l⟩⟩ := s
    cases l with
    | nil =>
      rw [← KT.put_eq h2, cc_nil, res112, KT.get_put_eq _ _ (by decide)]; rfl
    | cons a r =>
      rw [← KT.put_eq h2, cc_cons, res112, KT.get_put_eq _ _ (by decide)]
      have e1 : (ByteArray.mk ⟨a :: r⟩).size = r.length + 1 := rfl
      have e2 : Nat.ble 1 (r.length + 1) = true := Nat.ble_eq_true_of_le (by omega)
      rw [e1, e2, Bool.true_and]
  · rw [h1]
    rw [goodF_eq] at hg
    simp only [rightB, hg, Bool.false_and]
    refine ⟨σ', ?_⟩
    rw [res112, h2]
theorem right_run (m : Int) (s : ByteArray) : ∃ k, (acall E2 k 121 [.string s] (VAbs.start m)).map (·.1) = some (.bool (rightB s)) := by
  refine ⟨s.size + 2, ?_⟩
  obtain ⟨σ', h⟩ := right_k m s (fun v' _ => some (v', (⟨.e, 0, []⟩ : AS)))
  exact kcall_val h

noncomputable def bQ : Code := (Tryz.f22.body).getD .skip
noncomputable def Q0 : Code := cA bQ
noncomputable def QL : Code := cA (cA (cB (cA (cB bQ))))
noncomputable def Q1 : Code := cA (cA (cB bQ))
noncomputable def QC : Code := cB (cB bQ)
noncomputable def Q2 : Code := cA QL
noncomputable def Q4 : Code := cA (cA (cA (cB QL)))
noncomputable def Q5 : Code := cB (cA (cA (cB QL)))
noncomputable def Q3 : Code := cB (cB QL)
theorem shapeQ : Tryz.f22.body = some (.seq Q0 (.seq (.seq Q1 (.block 0 (.loop (.seq Q2 (.seq (.block 1 (.seq Q4 Q5)) Q3))))) QC)) := by kernel_rfl
theorem q0 (kc : KCall) (k : Nat) (t : KT) (σ : AS) (kn : KT → AS → KR) (kx : Nat → KT → AS → KR) (kr : KT → AS → KR) : (kcode E2 57 Q0).run kc k t σ kn kx kr = kn (t.put 2 (.bool false)) σ := by kernel_rfl
theorem q1 (kc : KCall) (k : Nat) (t : KT) (σ : AS) (kn : KT → AS → KR) (kx : Nat → KT → AS → KR) (kr : KT → AS → KR) : (kcode E2 57 Q1).run kc k t σ kn kx kr = kn (t.put 3 (.int .i64 (Int.ofNat 0))) σ := by kernel_rfl
theorem q2 (kc : KCall) (k : Nat) (t : KT) (s : ByteArray) (i : Nat) (σ : AS) (kn : KT → AS → KR) (kx : Nat → KT → AS → KR) (kr : KT → AS → KR) :
    (kcode E2 57 Q2).run kc k ((t.put 0 (.string s)).put 3 (.int .i64 (Int.ofNat i))) σ kn kx kr =
    Bool.rec (kx 0 ((((((t.put 0 (.string s)).put 3 (.int .i64 (Int.ofNat i))).put 5 (.int .i64 (Int.ofNat i))).put 6 (.string s)).put 7 (.int .i64 (Int.ofNat s.data.toList.length))).put 8 (.bool (Nat.ble (Nat.succ i) s.data.toList.length))) σ)
      (kn ((((((t.put 0 (.string s)).put 3 (.int .i64 (Int.ofNat i))).put 5 (.int .i64 (Int.ofNat i))).put 6 (.string s)).put 7 (.int .i64 (Int.ofNat s.data.toList.length))).put 8 (.bool (Nat.ble (Nat.succ i) s.data.toList.length))) σ)
      (Nat.ble (Nat.succ i) s.data.toList.length) := by kernel_rfl
theorem q4 (kc : KCall) (k : Nat) (t : KT) (s : ByteArray) (i : Nat) (σ : AS) (kn : KT → AS → KR) (kx : Nat → KT → AS → KR) (kr : KT → AS → KR) :
    (kcode E2 57 Q4).run kc k ((t.put 0 (.string s)).put 3 (.int .i64 (Int.ofNat i))) σ kn kx kr =
    kth i s.data.toList fun b => kn ((((((t.put 0 (.string s)).put 3 (.int .i64 (Int.ofNat i))).put 11 (.string s)).put 12 (.int .i64 (Int.ofNat i))).put 13 (.int .u8 (Int.ofNat b.toNat))).put 4 (.int .u8 (Int.ofNat b.toNat))) σ := by kernel_rfl
theorem q3 (kc : KCall) (k : Nat) (t : KT) (i : Nat) (σ : AS) (kn : KT → AS → KR) (kx : Nat → KT → AS → KR) (kr : KT → AS → KR) :
    (kcode E2 57 Q3).run kc k (t.put 3 (.int .i64 (Int.ofNat i))) σ kn kx kr = kn ((((t.put 3 (.int .i64 (Int.ofNat i))).put 9 (.int .i64 (Int.ofNat i))).put 10 (.int .i64 (kwrapN .i64 (Nat.add i 1)))).put 3 (.int .i64 (kwrapN .i64 (Nat.add i 1)))) σ := by kernel_rfl
/-- A sign is a name's sign, or not: 128 of them one by one, the others at once. -/
def q5P' (C : KCode) (n : Nat) : Prop := ∀ (kc : KCall) (k : Nat) (t : KT) (σ : AS) (G : Value → Value → AS → KR) (H : Value → AS → KR) (kx : Nat → KT → AS → KR),
    C.run kc k (t.put 4 (.int .u8 (Int.ofNat n))) σ (fun t σ => G (t.get 0) (t.get 3) σ) kx (fun t σ => H (t.get 2) σ) = cond (okN n) (G (t.get 0) (t.get 3) σ) (H (.bool false) σ)
def q5P (n : Nat) : Prop := q5P' (kcode E2 57 Q5) n
def allP (P : Nat → Prop) : Nat → Prop
  | 0 => True
  | n + 1 => P n ∧ allP P n
theorem allP_ok {P : Nat → Prop} : ∀ {n : Nat}, allP P n → ∀ i, i < n → P i
  | 0, _, i, hi => absurd hi (by omega)
  | n + 1, h, i, hi => by
    rcases (by omega : i = n ∨ i < n) with rfl | q
    · exact h.1
    · exact allP_ok h.2 i q
theorem q5_0 : q5P 0 := by intro kc k t σ G H kx; kernel_rfl
theorem q5_1 : q5P 1 := by intro kc k t σ G H kx; kernel_rfl
theorem q5_2 : q5P 2 := by intro kc k t σ G H kx; kernel_rfl
theorem q5_3 : q5P 3 := by intro kc k t σ G H kx; kernel_rfl
theorem q5_4 : q5P 4 := by intro kc k t σ G H kx; kernel_rfl
theorem q5_5 : q5P 5 := by intro kc k t σ G H kx; kernel_rfl
theorem q5_6 : q5P 6 := by intro kc k t σ G H kx; kernel_rfl
theorem q5_7 : q5P 7 := by intro kc k t σ G H kx; kernel_rfl
theorem q5_8 : q5P 8 := by intro kc k t σ G H kx; kernel_rfl
theorem q5_9 : q5P 9 := by intro kc k t σ G H kx; kernel_rfl
theorem q5_10 : q5P 10 := by intro kc k t σ G H kx; kernel_rfl
theorem q5_11 : q5P 11 := by intro kc k t σ G H kx; kernel_rfl
theorem q5_12 : q5P 12 := by intro kc k t σ G H kx; kernel_rfl
theorem q5_13 : q5P 13 := by intro kc k t σ G H kx; kernel_rfl
theorem q5_14 : q5P 14 := by intro kc k t σ G H kx; kernel_rfl
theorem q5_15 : q5P 15 := by intro kc k t σ G H kx; kernel_rfl
theorem q5_16 : q5P 16 := by intro kc k t σ G H kx; kernel_rfl
theorem q5_17 : q5P 17 := by intro kc k t σ G H kx; kernel_rfl
theorem q5_18 : q5P 18 := by intro kc k t σ G H kx; kernel_rfl
theorem q5_19 : q5P 19 := by intro kc k t σ G H kx; kernel_rfl
theorem q5_20 : q5P 20 := by intro kc k t σ G H kx; kernel_rfl
theorem q5_21 : q5P 21 := by intro kc k t σ G H kx; kernel_rfl
theorem q5_22 : q5P 22 := by intro kc k t σ G H kx; kernel_rfl
theorem q5_23 : q5P 23 := by intro kc k t σ G H kx; kernel_rfl
theorem q5_24 : q5P 24 := by intro kc k t σ G H kx; kernel_rfl
theorem q5_25 : q5P 25 := by intro kc k t σ G H kx; kernel_rfl
theorem q5_26 : q5P 26 := by intro kc k t σ G H kx; kernel_rfl
theorem q5_27 : q5P 27 := by intro kc k t σ G H kx; kernel_rfl
theorem q5_28 : q5P 28 := by intro kc k t σ G H kx; kernel_rfl
theorem q5_29 : q5P 29 := by intro kc k t σ G H kx; kernel_rfl
theorem q5_30 : q5P 30 := by intro kc k t σ G H kx; kernel_rfl
theorem q5_31 : q5P 31 := by intro kc k t σ G H kx; kernel_rfl
theorem q5_32 : q5P 32 := by intro kc k t σ G H kx; kernel_rfl
theorem q5_33 : q5P 33 := by intro kc k t σ G H kx; kernel_rfl
theorem q5_34 : q5P 34 := by intro kc k t σ G H kx; kernel_rfl
theorem q5_35 : q5P 35 := by intro kc k t σ G H kx; kernel_rfl
theorem q5_36 : q5P 36 := by intro kc k t σ G H kx; kernel_rfl
theorem q5_37 : q5P 37 := by intro kc k t σ G H kx; kernel_rfl
theorem q5_38 : q5P 38 := by intro kc k t σ G H kx; kernel_rfl
theorem q5_39 : q5P 39 := by intro kc k t σ G H kx; kernel_rfl
theorem q5_40 : q5P 40 := by intro kc k t σ G H kx; kernel_rfl
theorem q5_41 : q5P 41 := by intro kc k t σ G H kx; kernel_rfl
theorem q5_42 : q5P 42 := by intro kc k t σ G H kx; kernel_rfl
theorem q5_43 : q5P 43 := by intro kc k t σ G H kx; kernel_rfl
theorem q5_44 : q5P 44 := by intro kc k t σ G H kx; kernel_rfl
theorem q5_45 : q5P 45 := by intro kc k t σ G H kx; kernel_rfl
theorem q5_46 : q5P 46 := by intro kc k t σ G H kx; kernel_rfl
theorem q5_47 : q5P 47 := by intro kc k t σ G H kx; kernel_rfl
theorem q5_48 : q5P 48 := by intro kc k t σ G H kx; kernel_rfl
theorem q5_49 : q5P 49 := by intro kc k t σ G H kx; kernel_rfl
theorem q5_50 : q5P 50 := by intro kc k t σ G H kx; kernel_rfl
theorem q5_51 : q5P 51 := by intro kc k t σ G H kx; kernel_rfl
theorem q5_52 : q5P 52 := by intro kc k t σ G H kx; kernel_rfl
theorem q5_53 : q5P 53 := by intro kc k t σ G H kx; kernel_rfl
theorem q5_54 : q5P 54 := by intro kc k t σ G H kx; kernel_rfl
theorem q5_55 : q5P 55 := by intro kc k t σ G H kx; kernel_rfl
theorem q5_56 : q5P 56 := by intro kc k t σ G H kx; kernel_rfl
theorem q5_57 : q5P 57 := by intro kc k t σ G H kx; kernel_rfl
theorem q5_58 : q5P 58 := by intro kc k t σ G H kx; kernel_rfl
theorem q5_59 : q5P 59 := by intro kc k t σ G H kx; kernel_rfl
theorem q5_60 : q5P 60 := by intro kc k t σ G H kx; kernel_rfl
theorem q5_61 : q5P 61 := by intro kc k t σ G H kx; kernel_rfl
theorem q5_62 : q5P 62 := by intro kc k t σ G H kx; kernel_rfl
theorem q5_63 : q5P 63 := by intro kc k t σ G H kx; kernel_rfl
theorem q5_64 : q5P 64 := by intro kc k t σ G H kx; kernel_rfl
theorem q5_65 : q5P 65 := by intro kc k t σ G H kx; kernel_rfl
theorem q5_66 : q5P 66 := by intro kc k t σ G H kx; kernel_rfl
theorem q5_67 : q5P 67 := by intro kc k t σ G H kx; kernel_rfl
theorem q5_68 : q5P 68 := by intro kc k t σ G H kx; kernel_rfl
theorem q5_69 : q5P 69 := by intro kc k t σ G H kx; kernel_rfl
theorem q5_70 : q5P 70 := by intro kc k t σ G H kx; kernel_rfl
theorem q5_71 : q5P 71 := by intro kc k t σ G H kx; kernel_rfl
theorem q5_72 : q5P 72 := by intro kc k t σ G H kx; kernel_rfl
theorem q5_73 : q5P 73 := by intro kc k t σ G H kx; kernel_rfl
theorem q5_74 : q5P 74 := by intro kc k t σ G H kx; kernel_rfl
theorem q5_75 : q5P 75 := by intro kc k t σ G H kx; kernel_rfl
theorem q5_76 : q5P 76 := by intro kc k t σ G H kx; kernel_rfl
theorem q5_77 : q5P 77 := by intro kc k t σ G H kx; kernel_rfl
theorem q5_78 : q5P 78 := by intro kc k t σ G H kx; kernel_rfl
theorem q5_79 : q5P 79 := by intro kc k t σ G H kx; kernel_rfl
theorem q5_80 : q5P 80 := by intro kc k t σ G H kx; kernel_rfl
theorem q5_81 : q5P 81 := by intro kc k t σ G H kx; kernel_rfl
theorem q5_82 : q5P 82 := by intro kc k t σ G H kx; kernel_rfl
theorem q5_83 : q5P 83 := by intro kc k t σ G H kx; kernel_rfl
theorem q5_84 : q5P 84 := by intro kc k t σ G H kx; kernel_rfl
theorem q5_85 : q5P 85 := by intro kc k t σ G H kx; kernel_rfl
theorem q5_86 : q5P 86 := by intro kc k t σ G H kx; kernel_rfl
theorem q5_87 : q5P 87 := by intro kc k t σ G H kx; kernel_rfl
theorem q5_88 : q5P 88 := by intro kc k t σ G H kx; kernel_rfl
theorem q5_89 : q5P 89 := by intro kc k t σ G H kx; kernel_rfl
theorem q5_90 : q5P 90 := by intro kc k t σ G H kx; kernel_rfl
theorem q5_91 : q5P 91 := by intro kc k t σ G H kx; kernel_rfl
theorem q5_92 : q5P 92 := by intro kc k t σ G H kx; kernel_rfl
theorem q5_93 : q5P 93 := by intro kc k t σ G H kx; kernel_rfl
theorem q5_94 : q5P 94 := by intro kc k t σ G H kx; kernel_rfl
theorem q5_95 : q5P 95 := by intro kc k t σ G H kx; kernel_rfl
theorem q5_96 : q5P 96 := by intro kc k t σ G H kx; kernel_rfl
theorem q5_97 : q5P 97 := by intro kc k t σ G H kx; kernel_rfl
theorem q5_98 : q5P 98 := by intro kc k t σ G H kx; kernel_rfl
theorem q5_99 : q5P 99 := by intro kc k t σ G H kx; kernel_rfl
theorem q5_100 : q5P 100 := by intro kc k t σ G H kx; kernel_rfl
theorem q5_101 : q5P 101 := by intro kc k t σ G H kx; kernel_rfl
theorem q5_102 : q5P 102 := by intro kc k t σ G H kx; kernel_rfl
theorem q5_103 : q5P 103 := by intro kc k t σ G H kx; kernel_rfl
theorem q5_104 : q5P 104 := by intro kc k t σ G H kx; kernel_rfl
theorem q5_105 : q5P 105 := by intro kc k t σ G H kx; kernel_rfl
theorem q5_106 : q5P 106 := by intro kc k t σ G H kx; kernel_rfl
theorem q5_107 : q5P 107 := by intro kc k t σ G H kx; kernel_rfl
theorem q5_108 : q5P 108 := by intro kc k t σ G H kx; kernel_rfl
theorem q5_109 : q5P 109 := by intro kc k t σ G H kx; kernel_rfl
theorem q5_110 : q5P 110 := by intro kc k t σ G H kx; kernel_rfl
theorem q5_111 : q5P 111 := by intro kc k t σ G H kx; kernel_rfl
theorem q5_112 : q5P 112 := by intro kc k t σ G H kx; kernel_rfl
theorem q5_113 : q5P 113 := by intro kc k t σ G H kx; kernel_rfl
theorem q5_114 : q5P 114 := by intro kc k t σ G H kx; kernel_rfl
theorem q5_115 : q5P 115 := by intro kc k t σ G H kx; kernel_rfl
theorem q5_116 : q5P 116 := by intro kc k t σ G H kx; kernel_rfl
theorem q5_117 : q5P 117 := by intro kc k t σ G H kx; kernel_rfl
theorem q5_118 : q5P 118 := by intro kc k t σ G H kx; kernel_rfl
theorem q5_119 : q5P 119 := by intro kc k t σ G H kx; kernel_rfl
theorem q5_120 : q5P 120 := by intro kc k t σ G H kx; kernel_rfl
theorem q5_121 : q5P 121 := by intro kc k t σ G H kx; kernel_rfl
theorem q5_122 : q5P 122 := by intro kc k t σ G H kx; kernel_rfl
theorem q5_123 : q5P 123 := by intro kc k t σ G H kx; kernel_rfl
theorem q5_124 : q5P 124 := by intro kc k t σ G H kx; kernel_rfl
theorem q5_125 : q5P 125 := by intro kc k t σ G H kx; kernel_rfl
theorem q5_126 : q5P 126 := by intro kc k t σ G H kx; kernel_rfl
theorem q5_127 : q5P 127 := by intro kc k t σ G H kx; kernel_rfl
theorem q5_low : ∀ n, n < 128 → q5P n := allP_ok (n := 128) ⟨q5_127, q5_126, q5_125, q5_124, q5_123, q5_122, q5_121, q5_120, q5_119, q5_118, q5_117, q5_116, q5_115, q5_114, q5_113, q5_112, q5_111, q5_110, q5_109, q5_108, q5_107, q5_106, q5_105, q5_104, q5_103, q5_102, q5_101, q5_100, q5_99, q5_98, q5_97, q5_96, q5_95, q5_94, q5_93, q5_92, q5_91, q5_90, q5_89, q5_88, q5_87, q5_86, q5_85, q5_84, q5_83, q5_82, q5_81, q5_80, q5_79, q5_78, q5_77, q5_76, q5_75, q5_74, q5_73, q5_72, q5_71, q5_70, q5_69, q5_68, q5_67, q5_66, q5_65, q5_64, q5_63, q5_62, q5_61, q5_60, q5_59, q5_58, q5_57, q5_56, q5_55, q5_54, q5_53, q5_52, q5_51, q5_50, q5_49, q5_48, q5_47, q5_46, q5_45, q5_44, q5_43, q5_42, q5_41, q5_40, q5_39, q5_38, q5_37, q5_36, q5_35, q5_34, q5_33, q5_32, q5_31, q5_30, q5_29, q5_28, q5_27, q5_26, q5_25, q5_24, q5_23, q5_22, q5_21, q5_20, q5_19, q5_18, q5_17, q5_16, q5_15, q5_14, q5_13, q5_12, q5_11, q5_10, q5_9, q5_8, q5_7, q5_6, q5_5, q5_4, q5_3, q5_2, q5_1, q5_0, trivial⟩
def q5H (C : KCode) : Prop := ∀ (kc : KCall) (k : Nat) (t : KT) (σ : AS) (G : Value → Value → AS → KR) (H : Value → AS → KR) (kx : Nat → KT → AS → KR) (d : Nat),
    C.run kc k (t.put 4 (.int .u8 (Int.ofNat (d + 128)))) σ (fun t σ => G (t.get 0) (t.get 3) σ) kx (fun t σ => H (t.get 2) σ) = H (.bool false) σ
theorem q5_high : q5H (kcode E2 57 Q5) := by intro kc k t σ G H kx d; kernel_rfl

theorem kloop_succ {b : KCode} {kc : KCall} {k0 : Nat} {kx : Nat → KT → AS → KR} {kr : KT → AS → KR} {m : Nat} {t : KT} {σ : AS} : kloop b kc k0 kx kr (m + 1) t σ = b.run kc k0 t σ (kloop b kc k0 kx kr m) kx kr := rfl
theorem kth_eq {α : Type} : ∀ {k : Nat} {c : List α} {v : α} {K : α → KR}, c[k]? = some v → kth k c K = K v
  | 0, [], v, K, h => by cases h
  | 0, x :: c, v, K, h => by cases h; rfl
  | k + 1, [], v, K, h => by simp at h
  | k + 1, x :: c, v, K, h => kth_eq (k := k) (c := c) (by simpa using h)
theorem get_at {s : ByteArray} {i : Nat} (h : i < s.size) : s.data.toList[i]? = some (s.get! i) := by
  have e : s.get! i = s.data[i]! := rfl
  have h' : i < s.data.size := h
  rw [e, getElem!_pos s.data i h', Array.getElem?_toList, Array.getElem?_eq_getElem h']
theorem shapeQL : QL = .seq Q2 (.seq (.block 1 (.seq Q4 Q5)) Q3) := by kernel_rfl
def capN : Nat := 140737488355328
def dstQ : List Nat := [2, 14, 15, 16, 17, 18, 19, 20, 21, 22, 23, 24, 25, 26, 27, 28, 29, 30, 31, 32, 33, 34, 35, 36, 37, 38, 39, 40, 41, 42, 43, 44, 45, 46, 47, 48]
theorem inQ : codeIn dstQ Q5 = true := by kernel_rfl
/-- The loop, of whatever code that does so. -/
theorem loopA (b C2 C3 C4 C5 : KCode) (kc : KCall) (k : Nat) (s : ByteArray) (hs : s.size ≤ capN) (X : Nat → Value → AS → KR) (H : Value → AS → KR) (kx : Nat → KT → AS → KR) (kr : KT → AS → KR) (hkx : ∀ t σ, t.get 0 = .string s → kx 0 t σ = X 0 (.string s) σ) (hkr : ∀ t σ, kr t σ = H (t.get 2) σ)
    (hb : ∀ t σ kn, b.run kc k t σ kn kx kr = C2.run kc k t σ (fun t σ => C4.run kc k t σ (fun t σ => C5.run kc k t σ (fun t σ => C3.run kc k t σ kn kx kr) (fun i t σ => Bool.rec (motive := fun _ => KR) (kx i t σ) (C3.run kc k t σ kn kx kr) (Nat.beq i 1)) kr)
      (fun i t σ => Bool.rec (motive := fun _ => KR) (kx i t σ) (C3.run kc k t σ kn kx kr) (Nat.beq i 1)) kr) kx kr)
    (h2 : ∀ (t : KT) (i : Nat) (σ : AS) (kn : KT → AS → KR), C2.run kc k ((t.put 0 (.string s)).put 3 (.int .i64 (Int.ofNat i))) σ kn kx kr =
      Bool.rec (kx 0 ((((((t.put 0 (.string s)).put 3 (.int .i64 (Int.ofNat i))).put 5 (.int .i64 (Int.ofNat i))).put 6 (.string s)).put 7 (.int .i64 (Int.ofNat s.data.toList.length))).put 8 (.bool (Nat.ble (Nat.succ i) s.data.toList.length))) σ)
      (kn ((((((t.put 0 (.string s)).put 3 (.int .i64 (Int.ofNat i))).put 5 (.int .i64 (Int.ofNat i))).put 6 (.string s)).put 7 (.int .i64 (Int.ofNat s.data.toList.length))).put 8 (.bool (Nat.ble (Nat.succ i) s.data.toList.length))) σ)
      (Nat.ble (Nat.succ i) s.data.toList.length))
    (h4 : ∀ (t : KT) (i : Nat) (σ : AS) (kn : KT → AS → KR) (kx : Nat → KT → AS → KR), C4.run kc k ((t.put 0 (.string s)).put 3 (.int .i64 (Int.ofNat i))) σ kn kx kr =
      kth i s.data.toList fun b => kn ((((((t.put 0 (.string s)).put 3 (.int .i64 (Int.ofNat i))).put 11 (.string s)).put 12 (.int .i64 (Int.ofNat i))).put 13 (.int .u8 (Int.ofNat b.toNat))).put 4 (.int .u8 (Int.ofNat b.toNat))) σ)
    (h3c : ∀ (t : KT) (i : Nat) (σ : AS) (kn : KT → AS → KR), C3.run kc k (t.put 3 (.int .i64 (Int.ofNat i))) σ kn kx kr = kn ((((t.put 3 (.int .i64 (Int.ofNat i))).put 9 (.int .i64 (Int.ofNat i))).put 10 (.int .i64 (kwrapN .i64 (Nat.add i 1)))).put 3 (.int .i64 (kwrapN .i64 (Nat.add i 1)))) σ)
    (h5f : ∀ (t : KT) (σ : AS) (kn : KT → AS → KR) (kx : Nat → KT → AS → KR) (R : AS → KR), (∀ t' σ', Agree dstQ t t' → kn t' σ' = R σ') → C5.run kc k t σ kn kx kr = C5.run kc k t σ (fun t σ => (fun (_ _ : Value) (σ' : AS) => R σ') (t.get 0) (t.get 3) σ) kx (fun t σ => H (t.get 2) σ))
    (h5l : ∀ (n : Nat), n < 128 → ∀ (t : KT) (σ : AS) (R : AS → KR) (kx : Nat → KT → AS → KR), C5.run kc k (t.put 4 (.int .u8 (Int.ofNat n))) σ (fun t σ => (fun (_ _ : Value) (σ' : AS) => R σ') (t.get 0) (t.get 3) σ) kx (fun t σ => H (t.get 2) σ) = cond (okN n) (R σ) (H (.bool false) σ))
    (h5h : ∀ (d : Nat) (t : KT) (σ : AS) (R : AS → KR) (kx : Nat → KT → AS → KR), C5.run kc k (t.put 4 (.int .u8 (Int.ofNat (d + 128)))) σ (fun t σ => (fun (_ _ : Value) (σ' : AS) => R σ') (t.get 0) (t.get 3) σ) kx (fun t σ => H (t.get 2) σ) = H (.bool false) σ) :
    ∀ (n i : Nat) (t : KT) (σ : AS), 1 ≤ n → s.size + 2 ≤ i + n → i ≤ s.size → t.get 0 = .string s → t.get 3 = .int .i64 (Int.ofNat i) →
    kloop b kc k kx kr n t σ = cond (okFrom s n i) (X 0 (.string s) σ) (H (.bool false) σ) := by
  have hlen : s.data.toList.length = s.size := Array.length_toList
  intro n
  induction n with
  | zero => intro i t σ hn; omega
  | succ n ih =>
    intro i t σ hn hi hle h0 h3
    rw [kloop_succ, hb]
    generalize hL : kloop b kc k kx kr n = L at ih ⊢
    have hput : (t.put 0 (.string s)).put 3 (.int .i64 (Int.ofNat i)) = t := by rw [KT.put_eq h0, KT.put_eq h3]
    rw [← hput, h2, hput, hlen]
    simp only [okFrom]
    cases hb : Nat.ble (Nat.succ i) s.size with
    | false =>
      refine hkx _ _ ?_
      simp only [KT.get_put, Nat.reduceLT, Nat.reduceEqDiff, if_false]; exact h0
    | true =>
      have hlt : i < s.size := Nat.le_of_ble_eq_true hb
      have hg := get_at hlt
      generalize hc : s.get! i = c at hg
      simp only [cond_true]
      generalize hT2 : ((((t.put 5 (.int .i64 (Int.ofNat i))).put 6 (.string s)).put 7 (.int .i64 (Int.ofNat s.size))).put 8 (.bool true)) = T2
      have g0 : T2.get 0 = .string s := by rw [← hT2]; simp only [KT.get_put, Nat.reduceLT, Nat.reduceEqDiff, if_false]; exact h0
      have g3 : T2.get 3 = .int .i64 (Int.ofNat i) := by rw [← hT2]; simp only [KT.get_put, Nat.reduceLT, Nat.reduceEqDiff, if_false]; exact h3
      have hput2 : (T2.put 0 (.string s)).put 3 (.int .i64 (Int.ofNat i)) = T2 := by rw [KT.put_eq g0, KT.put_eq g3]
      rw [← hput2, h4, hput2, kth_eq hg]
      generalize hT4 : (((T2.put 11 (.string s)).put 12 (.int .i64 (Int.ofNat i))).put 13 (.int .u8 (Int.ofNat c.toNat))).put 4 (.int .u8 (Int.ofNat c.toNat)) = T4
      have k0 : T4.get 0 = .string s := by rw [← hT4]; simp only [KT.get_put, Nat.reduceLT, Nat.reduceEqDiff, if_false]; exact g0
      have k3 : T4.get 3 = .int .i64 (Int.ofNat i) := by rw [← hT4]; simp only [KT.get_put, Nat.reduceLT, Nat.reduceEqDiff, if_false]; exact g3
      have k4 : T4.get 4 = .int .u8 (Int.ofNat c.toNat) := by rw [← hT4, KT.get_put_eq _ _ (by decide)]
      have hwrap : kwrapN .i64 (Nat.add i 1) = Int.ofNat (i + 1) := by
        rw [kwrapN_eq]
        exact ktop_wrap (by show i + 1 < 9223372036854775808; have : s.size ≤ 140737488355328 := hs; omega)
      generalize hR : cond (okFrom s n (i + 1)) (X 0 (.string s)) (H (.bool false)) = R
      have hkn : ∀ t' σ', Agree dstQ T4 t' → C3.run kc k t' σ' L kx kr = R σ' := by
        intro t' σ' ha
        have e0 : t'.get 0 = .string s := by rw [ha 0 (by decide) (by decide)]; exact k0
        have e3 : t'.get 3 = .int .i64 (Int.ofNat i) := by rw [ha 3 (by decide) (by decide)]; exact k3
        rw [← KT.put_eq e3, h3c, KT.put_eq e3, hwrap]
        rw [ih (i + 1) _ σ' (by omega) (by omega) (by omega) (by simp only [KT.get_put, Nat.reduceLT, Nat.reduceEqDiff, if_false]; exact e0) (by rw [KT.get_put_eq _ _ (by decide)]), ← hR]
        cases okFrom s n (i + 1) <;> rfl
      rw [h5f T4 σ _ _ R hkn]
      have hR' : R σ = cond (okFrom s n (i + 1)) (X 0 (.string s) σ) (H (.bool false) σ) := by
        rw [← hR]; cases okFrom s n (i + 1) <;> rfl
      rcases Nat.lt_or_ge c.toNat 128 with h | h
      · have := h5l c.toNat h T4 σ R (fun i t σ => Bool.rec (motive := fun _ => KR) (kx i t σ) (C3.run kc k t σ L kx kr) (Nat.beq i 1))
        rw [KT.put_eq k4] at this
        rw [this, hR']
        cases okN c.toNat <;> rfl
      · obtain ⟨d, hd⟩ : ∃ d, c.toNat = d + 128 := ⟨c.toNat - 128, by omega⟩
        have := h5h d T4 σ R (fun i t σ => Bool.rec (motive := fun _ => KR) (kx i t σ) (C3.run kc k t σ L kx kr) (Nat.beq i 1))
        rw [← hd, KT.put_eq k4] at this
        rw [this, okN_high h]; rfl
theorem loopB (b C2 C3 C4 C5 : KCode) (kc : KCall) (k : Nat) (s : ByteArray) (hs : s.size ≤ capN) (X : Nat → Value → AS → KR) (H : Value → AS → KR) (kx : Nat → KT → AS → KR) (kr : KT → AS → KR) (hkx : ∀ t σ, t.get 0 = .string s → kx 0 t σ = X 0 (.string s) σ) (hkr : ∀ t σ, kr t σ = H (t.get 2) σ)
    (hb : ∀ t σ kn, b.run kc k t σ kn kx kr = C2.run kc k t σ (fun t σ => C4.run kc k t σ (fun t σ => C5.run kc k t σ (fun t σ => C3.run kc k t σ kn kx kr) (fun i t σ => Bool.rec (motive := fun _ => KR) (kx i t σ) (C3.run kc k t σ kn kx kr) (Nat.beq i 1)) kr)
      (fun i t σ => Bool.rec (motive := fun _ => KR) (kx i t σ) (C3.run kc k t σ kn kx kr) (Nat.beq i 1)) kr) kx kr)
    (h2 : ∀ (t : KT) (i : Nat) (σ : AS) (kn : KT → AS → KR), C2.run kc k ((t.put 0 (.string s)).put 3 (.int .i64 (Int.ofNat i))) σ kn kx kr =
      Bool.rec (kx 0 ((((((t.put 0 (.string s)).put 3 (.int .i64 (Int.ofNat i))).put 5 (.int .i64 (Int.ofNat i))).put 6 (.string s)).put 7 (.int .i64 (Int.ofNat s.data.toList.length))).put 8 (.bool (Nat.ble (Nat.succ i) s.data.toList.length))) σ)
      (kn ((((((t.put 0 (.string s)).put 3 (.int .i64 (Int.ofNat i))).put 5 (.int .i64 (Int.ofNat i))).put 6 (.string s)).put 7 (.int .i64 (Int.ofNat s.data.toList.length))).put 8 (.bool (Nat.ble (Nat.succ i) s.data.toList.length))) σ)
      (Nat.ble (Nat.succ i) s.data.toList.length))
    (h4 : ∀ (t : KT) (i : Nat) (σ : AS) (kn : KT → AS → KR) (kx : Nat → KT → AS → KR), C4.run kc k ((t.put 0 (.string s)).put 3 (.int .i64 (Int.ofNat i))) σ kn kx kr =
      kth i s.data.toList fun b => kn ((((((t.put 0 (.string s)).put 3 (.int .i64 (Int.ofNat i))).put 11 (.string s)).put 12 (.int .i64 (Int.ofNat i))).put 13 (.int .u8 (Int.ofNat b.toNat))).put 4 (.int .u8 (Int.ofNat b.toNat))) σ)
    (h3c : ∀ (t : KT) (i : Nat) (σ : AS) (kn : KT → AS → KR), C3.run kc k (t.put 3 (.int .i64 (Int.ofNat i))) σ kn kx kr = kn ((((t.put 3 (.int .i64 (Int.ofNat i))).put 9 (.int .i64 (Int.ofNat i))).put 10 (.int .i64 (kwrapN .i64 (Nat.add i 1)))).put 3 (.int .i64 (kwrapN .i64 (Nat.add i 1)))) σ)
    (h5f : ∀ (t : KT) (σ : AS) (kn : KT → AS → KR) (kx : Nat → KT → AS → KR) (R : AS → KR), (∀ t' σ', Agree dstQ t t' → kn t' σ' = R σ') → C5.run kc k t σ kn kx kr = C5.run kc k t σ (fun t σ => (fun (_ _ : Value) (σ' : AS) => R σ') (t.get 0) (t.get 3) σ) kx (fun t σ => H (t.get 2) σ))
    (h5l : ∀ n, n < 128 → q5P' C5 n)
    (h5h : q5H C5) :
    ∀ (n i : Nat) (t : KT) (σ : AS), 1 ≤ n → s.size + 2 ≤ i + n → i ≤ s.size → t.get 0 = .string s → t.get 3 = .int .i64 (Int.ofNat i) →
    kloop b kc k kx kr n t σ = cond (okFrom s n i) (X 0 (.string s) σ) (H (.bool false) σ) :=
  loopA b C2 C3 C4 C5 kc k s hs X H kx kr hkx hkr hb h2 h4 h3c h5f (fun n hn t σ R kx' => h5l n hn kc k t σ (fun (_ _ : Value) (σ' : AS) => R σ') H kx') (fun d t σ R kx' => h5h kc k t σ (fun (_ _ : Value) (σ' : AS) => R σ') H kx' d)
theorem body_of {E : Env} {N : Nat} (a d e f : Code) (kc : KCall) (k : Nat) (t : KT) (σ : AS) (kn : KT → AS → KR) (kx : Nat → KT → AS → KR) (kr : KT → AS → KR) :
    (kcode E N (.seq a (.seq (.block 1 (.seq d e)) f))).run kc k t σ kn kx kr = (kcode E N a).run kc k t σ (fun t σ => (kcode E N d).run kc k t σ (fun t σ => (kcode E N e).run kc k t σ (fun t σ => (kcode E N f).run kc k t σ kn kx kr) (fun i t σ => Bool.rec (motive := fun _ => KR) (kx i t σ) ((kcode E N f).run kc k t σ kn kx kr) (Nat.beq i 1)) kr)
      (fun i t σ => Bool.rec (motive := fun _ => KR) (kx i t σ) ((kcode E N f).run kc k t σ kn kx kr) (Nat.beq i 1)) kr) kx kr := rfl
theorem qbody (kc : KCall) (k : Nat) (t : KT) (σ : AS) (kn : KT → AS → KR) (kx : Nat → KT → AS → KR) (kr : KT → AS → KR) :
    (kcode E2 57 QL).run kc k t σ kn kx kr = (kcode E2 57 Q2).run kc k t σ (fun t σ => (kcode E2 57 Q4).run kc k t σ (fun t σ => (kcode E2 57 Q5).run kc k t σ (fun t σ => (kcode E2 57 Q3).run kc k t σ kn kx kr) (fun i t σ => Bool.rec (motive := fun _ => KR) (kx i t σ) ((kcode E2 57 Q3).run kc k t σ kn kx kr) (Nat.beq i 1)) kr)
      (fun i t σ => Bool.rec (motive := fun _ => KR) (kx i t σ) ((kcode E2 57 Q3).run kc k t σ kn kx kr) (Nat.beq i 1)) kr) kx kr := by
  have h := body_of (E := E2) (N := 57) Q2 Q4 Q5 Q3 kc k t σ kn kx kr
  rw [← shapeQL] at h
  exact h
theorem q5_frame (kc : KCall) (k : Nat) (H : Value → AS → KR) (kr : KT → AS → KR) (hkr : ∀ t σ, kr t σ = H (t.get 2) σ) (t : KT) (σ : AS) (kn : KT → AS → KR) (kx : Nat → KT → AS → KR) (R : AS → KR) (h : ∀ t' σ', Agree dstQ t t' → kn t' σ' = R σ') :
    (kcode E2 57 Q5).run kc k t σ kn kx kr = (kcode E2 57 Q5).run kc k t σ (fun t σ => (fun (_ _ : Value) (σ' : AS) => R σ') (t.get 0) (t.get 3) σ) kx (fun t σ => H (t.get 2) σ) :=
  kcode_frame E2 57 dstQ kc k t Q5 _ _ kx kx _ _ t σ inQ h (fun _ _ _ _ => rfl) (fun t' σ' _ => hkr t' σ') (Agree.refl _ _)
theorem loopQ (kc : KCall) (k : Nat) (s : ByteArray) (hs : s.size ≤ capN) (X : Nat → Value → AS → KR) (H : Value → AS → KR) (kx : Nat → KT → AS → KR) (kr : KT → AS → KR) (hkx : ∀ t σ, t.get 0 = .string s → kx 0 t σ = X 0 (.string s) σ) (hkr : ∀ t σ, kr t σ = H (t.get 2) σ) :
    ∀ (n i : Nat) (t : KT) (σ : AS), 1 ≤ n → s.size + 2 ≤ i + n → i ≤ s.size → t.get 0 = .string s → t.get 3 = .int .i64 (Int.ofNat i) →
    kloop (kcode E2 57 QL) kc k kx kr n t σ = cond (okFrom s n i) (X 0 (.string s) σ) (H (.bool false) σ) := by
  have hb := fun t σ kn => qbody kc k t σ kn kx kr
  have h2 := fun t i σ kn => q2 kc k t s i σ kn kx kr
  have h4 := fun t i σ kn kx' => q4 kc k t s i σ kn kx' kr
  have h3 := fun t i σ kn => q3 kc k t i σ kn kx kr
  have h5f := fun t σ kn kx' R h => q5_frame kc k H kr hkr t σ kn kx' R h
  exact loopB (kcode E2 57 QL) (kcode E2 57 Q2) (kcode E2 57 Q3) (kcode E2 57 Q4) (kcode E2 57 Q5) kc k s hs X H kx kr hkx hkr hb h2 h4 h3 h5f q5_low q5_high
theorem qc_nil (kc : KCall) (k : Nat) (t : KT) (σ : AS) (kn : KT → AS → KR) (kx : Nat → KT → AS → KR) (H : Value → AS → KR) : (kcode E2 57 QC).run kc k (t.put 0 (.string ⟨⟨[]⟩⟩)) σ kn kx (fun t σ => H (t.get 2) σ) = H (.bool false) σ := by kernel_rfl
theorem qc_cons (kc : KCall) (k : Nat) (t : KT) (a : UInt8) (r : List UInt8) (σ : AS) (kn : KT → AS → KR) (kx : Nat → KT → AS → KR) (H : Value → AS → KR) : (kcode E2 57 QC).run kc k (t.put 0 (.string ⟨⟨a :: r⟩⟩)) σ kn kx (fun t σ => H (t.get 2) σ) = H (.bool (Nat.ble (r.length + 1) 64)) σ := by kernel_rfl
theorem resQ (t : KT) (σ : AS) (K : Value → AS → KR) : (kres E2 Tryz.f22.results.toList).run t σ (fun l => K (resValue l) σ) = K (t.get 2) σ := by kernel_rfl
theorem slotQ : kslot E2 22 = kfunc E2 Tryz.f22 := by kernel_rfl
theorem startQ (s : ByteArray) (F : KT → KR) : kstart [.string s] 0 kt0 F = F (kt0.put 0 (.string s)) := by kernel_rfl
theorem qc_all (kc : KCall) (k : Nat) (s : ByteArray) (t : KT) (σ : AS) (h : t.get 0 = .string s) (kn : KT → AS → KR) (kx : Nat → KT → AS → KR) (H : Value → AS → KR) : (kcode E2 57 QC).run kc k t σ kn kx (fun t σ => H (t.get 2) σ) = H (.bool (Nat.ble 1 s.size && Nat.ble s.size 64)) σ := by
  obtain ⟨⟨l⟩⟩ := s
  cases l with
  | nil => rw [← KT.put_eq h, qc_nil]; rfl
  | cons a r =>
    rw [← KT.put_eq h, qc_cons]
    have e1 : (ByteArray.mk ⟨a :: r⟩).size = r.length + 1 := rfl
    have e2 : Nat.ble 1 (r.length + 1) = true := Nat.ble_eq_true_of_le (by omega)
    rw [e1, e2, Bool.true_and]
theorem refRight_k (m : Int) (s : ByteArray) (hs : s.size ≤ capN) (K : Value → AS → KR) : kcall E2 (s.size + 2) 22 [.string s] (VAbs.start m) K = K (.bool (rightB s)) (VAbs.start m) := by
  have h0 : kcall E2 (s.size + 2) 22 [.string s] (VAbs.start m) K = (kslot E2 22).run (kcall E2 (s.size + 1)) (s.size + 2) [.string s] (VAbs.start m) K := rfl
  rw [h0, slotQ]
  simp only [kfunc, shapeQ, startQ, kc_seq, kc_block, kc_loop]
  have hnt : Tryz.f22.ntmps = 57 := rfl
  simp only [hnt]
  simp only [resQ]
  rw [q0, q1, ← shapeQL]
  rw [loopQ (kcall E2 (s.size + 1)) (s.size + 2) s hs (fun _ _ σ => K (.bool (Nat.ble 1 s.size && Nat.ble s.size 64)) σ) K _ _ ?_ ?_ (s.size + 2) 0 _ _ (by omega) (by omega) (by omega) (by kernel_rfl) (by kernel_rfl)]
  · simp only [rightB]
    cases okFrom s (s.size + 2) 0 <;> rfl
  · intro t σ h; exact qc_all _ _ s t σ h _ _ K
  · intro t σ; rfl
theorem refRight_run (m : Int) (s : ByteArray) (hs : s.size ≤ capN) : ∃ k, (acall E2 k 22 [.string s] (VAbs.start m)).map (·.1) = some (.bool (rightB s)) := by
  refine ⟨s.size + 2, ?_⟩
  exact kcall_val (refRight_k m s hs (fun v' _ => some (v', (⟨.e, 0, []⟩ : AS))))
def fRef : List Value → Option Value
  | [.string s] => cond (Nat.ble s.size capN) (some (.bool (rightB s))) none
  | _ => none
def fRight : List Value → Option Value
  | [.string s] => some (.bool (rightB s))
  | _ => none
theorem may_ok (prims : Nat → Option (List Value → AS → Option (Value × AS))) : PrimOk (Env.of Tryz.prog (oneGlob 0) prims) 149 (pFun fMay) := fun_ok ok0 rfl (by
  intro args v hcl h
  unfold fMay at h
  split at h
  · cases h; exact ⟨rfl, fun m => ⟨3000, may_run m _⟩⟩
  · cases h) rfl rfl
theorem ok2 : ProgOk E2 := by
  refine progOk_of mixed allOk ?_
  intro n g h
  unfold prims2 at h
  split at h
  · cases h; exact ⟨may_ok prims2, _, Tryz.func149, by kernel_rfl⟩
  · exact prims0_ok prims2 n g h
theorem right_ok (prims : Nat → Option (List Value → AS → Option (Value × AS))) : PrimOk (Env.of Tryz.prog (oneGlob 0) prims) 121 (pFun fRight) := fun_ok ok2 rfl (by
  intro args v hcl h
  unfold fRight at h
  split at h
  · cases h; exact ⟨rfl, fun m => right_run m _⟩
  · cases h) rfl rfl
theorem ref_ok (prims : Nat → Option (List Value → AS → Option (Value × AS))) : PrimOk (Env.of Tryz.prog (oneGlob 0) prims) 22 (pFun fRef) := fun_ok ok2 rfl (by
  intro args v hcl h
  unfold fRef at h
  split at h
  · rename_i s
    cases hb : Nat.ble s.size capN with
    | false => rw [hb] at h; cases h
    | true =>
      rw [hb] at h; cases h
      exact ⟨rfl, fun m => refRight_run m _ (Nat.le_of_ble_eq_true hb)⟩
  · cases h) rfl rfl
/-! ### Nets -/
/-- May a net be one? -/
def mayB (a : Nat) : Int → Bool
  | .ofNat n => Nat.ble n 32 && Nat.beq (Nat.mod a (Nat.pow 2 (Nat.sub 32 n))) 0
  | .negSucc _ => false
def top32 : Nat := 4294967296
def andB (a c : Nat) : Bool := Nat.beq (BitVec.toNat (BitVec.ofInt 32 (Int.ofNat a) &&& ~~~(BitVec.ofInt 32 (Int.ofNat c))) % Int.natAbs (2 ^ 32)) 0
theorem andB_eq {a c k : Nat} (ha : a < top32) (hk : k ≤ 32) (hc : (~~~(BitVec.ofInt 32 (Int.ofNat c))).toNat = 2 ^ k - 1) : andB a c = Nat.beq (Nat.mod a (Nat.pow 2 k)) 0 := by
  have ha' : a < 2 ^ 32 := ha
  have h1 : (BitVec.ofInt 32 (Int.ofNat a)).toNat = a := by
    rw [BitVec.toNat_ofInt]
    have : (Int.ofNat a : Int) = (a : Int) := rfl
    rw [this]
    omega
  have h2 : BitVec.toNat (BitVec.ofInt 32 (Int.ofNat a) &&& ~~~(BitVec.ofInt 32 (Int.ofNat c))) = a % 2 ^ k := by
    rw [BitVec.toNat_and, h1, hc, Nat.and_two_pow_sub_one_eq_mod]
  have h3 : a % 2 ^ k < 2 ^ 32 := Nat.lt_of_le_of_lt (Nat.mod_le _ _) ha'
  have h4 : Int.natAbs (2 ^ 32) = 2 ^ 32 := by decide
  show Nat.beq (BitVec.toNat (BitVec.ofInt 32 (Int.ofNat a) &&& ~~~(BitVec.ofInt 32 (Int.ofNat c))) % Int.natAbs (2 ^ 32)) 0 = _
  rw [h2, h4, Nat.mod_eq_of_lt h3]; rfl
/-- The program's, at so many bits. -/
def mP (f : Nat) (n : Nat) : Prop := ∀ (a : Nat) (m : Int), kval E0 3000 f [.agg #[.int .u32 (Int.ofNat a), .int .i64 (Int.ofNat n)]] (VAbs.start m) = some (.bool (andB a (4294967296 - 2 ^ (32 - n))))
/-- The reference's. -/
def mQ (f : Nat) (n : Nat) : Prop := ∀ (a : Nat) (m : Int), kcall E0 3000 f [.agg #[.int .u32 (Int.ofNat a), .int .i64 (Int.ofNat n)]] (VAbs.start m) (fun v' _ => some (v', (⟨.e, 0, []⟩ : AS))) = Bool.rec (motive := fun _ => KR) none (some (.bool (Nat.beq (Nat.mod a (Nat.pow 2 (Nat.sub 32 n))) 0), (⟨.e, 0, []⟩ : AS))) (Nat.ble (Nat.succ a) top32)
def mPn (f : Nat) : Prop := ∀ (a d : Nat) (m : Int), kval E0 3000 f [.agg #[.int .u32 (Int.ofNat a), .int .i64 (Int.ofNat (d + 33))]] (VAbs.start m) = some (.bool false)
def mPz (f : Nat) : Prop := ∀ (a d : Nat) (m : Int), kval E0 3000 f [.agg #[.int .u32 (Int.ofNat a), .int .i64 (Int.negSucc d)]] (VAbs.start m) = some (.bool false)
theorem mp_0 : mP 111 0 := by intro a m; kernel_rfl
theorem mp_1 : mP 111 1 := by intro a m; kernel_rfl
theorem mp_2 : mP 111 2 := by intro a m; kernel_rfl
theorem mp_3 : mP 111 3 := by intro a m; kernel_rfl
theorem mp_4 : mP 111 4 := by intro a m; kernel_rfl
theorem mp_5 : mP 111 5 := by intro a m; kernel_rfl
theorem mp_6 : mP 111 6 := by intro a m; kernel_rfl
theorem mp_7 : mP 111 7 := by intro a m; kernel_rfl
theorem mp_8 : mP 111 8 := by intro a m; kernel_rfl
theorem mp_9 : mP 111 9 := by intro a m; kernel_rfl
theorem mp_10 : mP 111 10 := by intro a m; kernel_rfl
theorem mp_11 : mP 111 11 := by intro a m; kernel_rfl
theorem mp_12 : mP 111 12 := by intro a m; kernel_rfl
theorem mp_13 : mP 111 13 := by intro a m; kernel_rfl
theorem mp_14 : mP 111 14 := by intro a m; kernel_rfl
theorem mp_15 : mP 111 15 := by intro a m; kernel_rfl
theorem mp_16 : mP 111 16 := by intro a m; kernel_rfl
theorem mp_17 : mP 111 17 := by intro a m; kernel_rfl
theorem mp_18 : mP 111 18 := by intro a m; kernel_rfl
theorem mp_19 : mP 111 19 := by intro a m; kernel_rfl
theorem mp_20 : mP 111 20 := by intro a m; kernel_rfl
theorem mp_21 : mP 111 21 := by intro a m; kernel_rfl
theorem mp_22 : mP 111 22 := by intro a m; kernel_rfl
theorem mp_23 : mP 111 23 := by intro a m; kernel_rfl
theorem mp_24 : mP 111 24 := by intro a m; kernel_rfl
theorem mp_25 : mP 111 25 := by intro a m; kernel_rfl
theorem mp_26 : mP 111 26 := by intro a m; kernel_rfl
theorem mp_27 : mP 111 27 := by intro a m; kernel_rfl
theorem mp_28 : mP 111 28 := by intro a m; kernel_rfl
theorem mp_29 : mP 111 29 := by intro a m; kernel_rfl
theorem mp_30 : mP 111 30 := by intro a m; kernel_rfl
theorem mp_31 : mP 111 31 := by intro a m; kernel_rfl
theorem mp_32 : mP 111 32 := by intro a m; kernel_rfl
theorem mq_0 : mQ 61 0 := by intro a m; kernel_rfl
theorem mq_1 : mQ 61 1 := by intro a m; kernel_rfl
theorem mq_2 : mQ 61 2 := by intro a m; kernel_rfl
theorem mq_3 : mQ 61 3 := by intro a m; kernel_rfl
theorem mq_4 : mQ 61 4 := by intro a m; kernel_rfl
theorem mq_5 : mQ 61 5 := by intro a m; kernel_rfl
theorem mq_6 : mQ 61 6 := by intro a m; kernel_rfl
theorem mq_7 : mQ 61 7 := by intro a m; kernel_rfl
theorem mq_8 : mQ 61 8 := by intro a m; kernel_rfl
theorem mq_9 : mQ 61 9 := by intro a m; kernel_rfl
theorem mq_10 : mQ 61 10 := by intro a m; kernel_rfl
theorem mq_11 : mQ 61 11 := by intro a m; kernel_rfl
theorem mq_12 : mQ 61 12 := by intro a m; kernel_rfl
theorem mq_13 : mQ 61 13 := by intro a m; kernel_rfl
theorem mq_14 : mQ 61 14 := by intro a m; kernel_rfl
theorem mq_15 : mQ 61 15 := by intro a m; kernel_rfl
theorem mq_16 : mQ 61 16 := by intro a m; kernel_rfl
theorem mq_17 : mQ 61 17 := by intro a m; kernel_rfl
theorem mq_18 : mQ 61 18 := by intro a m; kernel_rfl
theorem mq_19 : mQ 61 19 := by intro a m; kernel_rfl
theorem mq_20 : mQ 61 20 := by intro a m; kernel_rfl
theorem mq_21 : mQ 61 21 := by intro a m; kernel_rfl
theorem mq_22 : mQ 61 22 := by intro a m; kernel_rfl
theorem mq_23 : mQ 61 23 := by intro a m; kernel_rfl
theorem mq_24 : mQ 61 24 := by intro a m; kernel_rfl
theorem mq_25 : mQ 61 25 := by intro a m; kernel_rfl
theorem mq_26 : mQ 61 26 := by intro a m; kernel_rfl
theorem mq_27 : mQ 61 27 := by intro a m; kernel_rfl
theorem mq_28 : mQ 61 28 := by intro a m; kernel_rfl
theorem mq_29 : mQ 61 29 := by intro a m; kernel_rfl
theorem mq_30 : mQ 61 30 := by intro a m; kernel_rfl
theorem mq_31 : mQ 61 31 := by intro a m; kernel_rfl
theorem mq_32 : mQ 61 32 := by intro a m; kernel_rfl
theorem mp_all : ∀ n, n < 33 → mP 111 n := allP_ok (n := 33) ⟨mp_32, mp_31, mp_30, mp_29, mp_28, mp_27, mp_26, mp_25, mp_24, mp_23, mp_22, mp_21, mp_20, mp_19, mp_18, mp_17, mp_16, mp_15, mp_14, mp_13, mp_12, mp_11, mp_10, mp_9, mp_8, mp_7, mp_6, mp_5, mp_4, mp_3, mp_2, mp_1, mp_0, trivial⟩
theorem mq_all : ∀ n, n < 33 → mQ 61 n := allP_ok (n := 33) ⟨mq_32, mq_31, mq_30, mq_29, mq_28, mq_27, mq_26, mq_25, mq_24, mq_23, mq_22, mq_21, mq_20, mq_19, mq_18, mq_17, mq_16, mq_15, mq_14, mq_13, mq_12, mq_11, mq_10, mq_9, mq_8, mq_7, mq_6, mq_5, mq_4, mq_3, mq_2, mq_1, mq_0, trivial⟩
theorem nt_0 : (~~~(BitVec.ofInt 32 (Int.ofNat (4294967296 - 2 ^ (32 - 0))))).toNat = 2 ^ (32 - 0) - 1 := by kernel_rfl
theorem nt_1 : (~~~(BitVec.ofInt 32 (Int.ofNat (4294967296 - 2 ^ (32 - 1))))).toNat = 2 ^ (32 - 1) - 1 := by kernel_rfl
theorem nt_2 : (~~~(BitVec.ofInt 32 (Int.ofNat (4294967296 - 2 ^ (32 - 2))))).toNat = 2 ^ (32 - 2) - 1 := by kernel_rfl
theorem nt_3 : (~~~(BitVec.ofInt 32 (Int.ofNat (4294967296 - 2 ^ (32 - 3))))).toNat = 2 ^ (32 - 3) - 1 := by kernel_rfl
theorem nt_4 : (~~~(BitVec.ofInt 32 (Int.ofNat (4294967296 - 2 ^ (32 - 4))))).toNat = 2 ^ (32 - 4) - 1 := by kernel_rfl
theorem nt_5 : (~~~(BitVec.ofInt 32 (Int.ofNat (4294967296 - 2 ^ (32 - 5))))).toNat = 2 ^ (32 - 5) - 1 := by kernel_rfl
theorem nt_6 : (~~~(BitVec.ofInt 32 (Int.ofNat (4294967296 - 2 ^ (32 - 6))))).toNat = 2 ^ (32 - 6) - 1 := by kernel_rfl
theorem nt_7 : (~~~(BitVec.ofInt 32 (Int.ofNat (4294967296 - 2 ^ (32 - 7))))).toNat = 2 ^ (32 - 7) - 1 := by kernel_rfl
theorem nt_8 : (~~~(BitVec.ofInt 32 (Int.ofNat (4294967296 - 2 ^ (32 - 8))))).toNat = 2 ^ (32 - 8) - 1 := by kernel_rfl
theorem nt_9 : (~~~(BitVec.ofInt 32 (Int.ofNat (4294967296 - 2 ^ (32 - 9))))).toNat = 2 ^ (32 - 9) - 1 := by kernel_rfl
theorem nt_10 : (~~~(BitVec.ofInt 32 (Int.ofNat (4294967296 - 2 ^ (32 - 10))))).toNat = 2 ^ (32 - 10) - 1 := by kernel_rfl
theorem nt_11 : (~~~(BitVec.ofInt 32 (Int.ofNat (4294967296 - 2 ^ (32 - 11))))).toNat = 2 ^ (32 - 11) - 1 := by kernel_rfl
theorem nt_12 : (~~~(BitVec.ofInt 32 (Int.ofNat (4294967296 - 2 ^ (32 - 12))))).toNat = 2 ^ (32 - 12) - 1 := by kernel_rfl
theorem nt_13 : (~~~(BitVec.ofInt 32 (Int.ofNat (4294967296 - 2 ^ (32 - 13))))).toNat = 2 ^ (32 - 13) - 1 := by kernel_rfl
theorem nt_14 : (~~~(BitVec.ofInt 32 (Int.ofNat (4294967296 - 2 ^ (32 - 14))))).toNat = 2 ^ (32 - 14) - 1 := by kernel_rfl
theorem nt_15 : (~~~(BitVec.ofInt 32 (Int.ofNat (4294967296 - 2 ^ (32 - 15))))).toNat = 2 ^ (32 - 15) - 1 := by kernel_rfl
theorem nt_16 : (~~~(BitVec.ofInt 32 (Int.ofNat (4294967296 - 2 ^ (32 - 16))))).toNat = 2 ^ (32 - 16) - 1 := by kernel_rfl
theorem nt_17 : (~~~(BitVec.ofInt 32 (Int.ofNat (4294967296 - 2 ^ (32 - 17))))).toNat = 2 ^ (32 - 17) - 1 := by kernel_rfl
theorem nt_18 : (~~~(BitVec.ofInt 32 (Int.ofNat (4294967296 - 2 ^ (32 - 18))))).toNat = 2 ^ (32 - 18) - 1 := by kernel_rfl
theorem nt_19 : (~~~(BitVec.ofInt 32 (Int.ofNat (4294967296 - 2 ^ (32 - 19))))).toNat = 2 ^ (32 - 19) - 1 := by kernel_rfl
theorem nt_20 : (~~~(BitVec.ofInt 32 (Int.ofNat (4294967296 - 2 ^ (32 - 20))))).toNat = 2 ^ (32 - 20) - 1 := by kernel_rfl
theorem nt_21 : (~~~(BitVec.ofInt 32 (Int.ofNat (4294967296 - 2 ^ (32 - 21))))).toNat = 2 ^ (32 - 21) - 1 := by kernel_rfl
theorem nt_22 : (~~~(BitVec.ofInt 32 (Int.ofNat (4294967296 - 2 ^ (32 - 22))))).toNat = 2 ^ (32 - 22) - 1 := by kernel_rfl
theorem nt_23 : (~~~(BitVec.ofInt 32 (Int.ofNat (4294967296 - 2 ^ (32 - 23))))).toNat = 2 ^ (32 - 23) - 1 := by kernel_rfl
theorem nt_24 : (~~~(BitVec.ofInt 32 (Int.ofNat (4294967296 - 2 ^ (32 - 24))))).toNat = 2 ^ (32 - 24) - 1 := by kernel_rfl
theorem nt_25 : (~~~(BitVec.ofInt 32 (Int.ofNat (4294967296 - 2 ^ (32 - 25))))).toNat = 2 ^ (32 - 25) - 1 := by kernel_rfl
theorem nt_26 : (~~~(BitVec.ofInt 32 (Int.ofNat (4294967296 - 2 ^ (32 - 26))))).toNat = 2 ^ (32 - 26) - 1 := by kernel_rfl
theorem nt_27 : (~~~(BitVec.ofInt 32 (Int.ofNat (4294967296 - 2 ^ (32 - 27))))).toNat = 2 ^ (32 - 27) - 1 := by kernel_rfl
theorem nt_28 : (~~~(BitVec.ofInt 32 (Int.ofNat (4294967296 - 2 ^ (32 - 28))))).toNat = 2 ^ (32 - 28) - 1 := by kernel_rfl
theorem nt_29 : (~~~(BitVec.ofInt 32 (Int.ofNat (4294967296 - 2 ^ (32 - 29))))).toNat = 2 ^ (32 - 29) - 1 := by kernel_rfl
theorem nt_30 : (~~~(BitVec.ofInt 32 (Int.ofNat (4294967296 - 2 ^ (32 - 30))))).toNat = 2 ^ (32 - 30) - 1 := by kernel_rfl
theorem nt_31 : (~~~(BitVec.ofInt 32 (Int.ofNat (4294967296 - 2 ^ (32 - 31))))).toNat = 2 ^ (32 - 31) - 1 := by kernel_rfl
theorem nt_32 : (~~~(BitVec.ofInt 32 (Int.ofNat (4294967296 - 2 ^ (32 - 32))))).toNat = 2 ^ (32 - 32) - 1 := by kernel_rfl
theorem nt_all : ∀ n, n < 33 → (~~~(BitVec.ofInt 32 (Int.ofNat (4294967296 - 2 ^ (32 - n))))).toNat = 2 ^ (32 - n) - 1 := allP_ok (P := fun n => (~~~(BitVec.ofInt 32 (Int.ofNat (4294967296 - 2 ^ (32 - n))))).toNat = 2 ^ (32 - n) - 1) (n := 33) ⟨nt_32, nt_31, nt_30, nt_29, nt_28, nt_27, nt_26, nt_25, nt_24, nt_23, nt_22, nt_21, nt_20, nt_19, nt_18, nt_17, nt_16, nt_15, nt_14, nt_13, nt_12, nt_11, nt_10, nt_9, nt_8, nt_7, nt_6, nt_5, nt_4, nt_3, nt_2, nt_1, nt_0, trivial⟩
theorem mpn : mPn 111 := by intro a d m; kernel_rfl
theorem mpz : mPz 111 := by intro a d m; kernel_rfl
theorem mqn : mPn 61 := by intro a d m; kernel_rfl
theorem mqz : mPz 61 := by intro a d m; kernel_rfl
theorem mayB_le {a n : Nat} (h : n ≤ 32) : mayB a (Int.ofNat n) = Nat.beq (Nat.mod a (Nat.pow 2 (Nat.sub 32 n))) 0 := by
  show (Nat.ble n 32 && Nat.beq (Nat.mod a (Nat.pow 2 (Nat.sub 32 n))) 0) = _
  rw [Nat.ble_eq_true_of_le h, Bool.true_and]
theorem mayB_gt (a d : Nat) : mayB a (Int.ofNat (d + 33)) = false := by
  show (Nat.ble (d + 33) 32 && Nat.beq (Nat.mod a (Nat.pow 2 (Nat.sub 32 (d + 33)))) 0) = _
  have : Nat.ble (d + 33) 32 = false := by
    cases hb : Nat.ble (d + 33) 32 with
    | false => rfl
    | true => have := Nat.le_of_ble_eq_true hb; omega
  rw [this, Bool.false_and]
theorem net_cases {P : Int → Prop} (h1 : ∀ n, n < 33 → P (Int.ofNat n)) (h2 : ∀ d, P (Int.ofNat (d + 33))) (h3 : ∀ d, P (Int.negSucc d)) : ∀ b, P b
  | .negSucc d => h3 d
  | .ofNat n => by
    rcases Nat.lt_or_ge n 33 with h | h
    · exact h1 n h
    · obtain ⟨d, rfl⟩ : ∃ d, n = d + 33 := ⟨n - 33, by omega⟩
      exact h2 d
theorem mayP_run (m : Int) (a : Nat) (ha : a < top32) : ∀ b : Int, (acall E0 3000 111 [.agg #[.int .u32 (Int.ofNat a), .int .i64 b]] (VAbs.start m)).map (·.1) = some (.bool (mayB a b)) := by
  refine net_cases (fun n hn => ?_) (fun d => ?_) (fun d => ?_)
  · apply kval_ok
    rw [mp_all n hn a m, andB_eq ha (by omega) (nt_all n hn), mayB_le (by omega)]; rfl
  · apply kval_ok
    rw [mpn a d m, mayB_gt]
  · apply kval_ok
    rw [mpz a d m]; rfl
theorem mayQ_run (m : Int) (a : Nat) (ha : a < top32) : ∀ b : Int, (acall E0 3000 61 [.agg #[.int .u32 (Int.ofNat a), .int .i64 b]] (VAbs.start m)).map (·.1) = some (.bool (mayB a b)) := by
  refine net_cases (fun n hn => ?_) (fun d => ?_) (fun d => ?_)
  · have := mq_all n hn a m
    rw [Nat.ble_eq_true_of_le (show Nat.succ a ≤ top32 from ha)] at this
    rw [mayB_le (by omega)]
    exact kcall_val (r := (_, _)) this
  · apply kval_ok
    rw [mqn a d m, mayB_gt]
  · apply kval_ok
    rw [mqz a d m]; rfl
def fNet : List Value → Option Value
  | [.agg ⟨[.int .u32 (.ofNat a), .int .i64 b]⟩] => cond (Nat.ble (Nat.succ a) top32) (some (.bool (mayB a b))) none
  | _ => none
theorem net_ok {f : Nat} (h : ∀ (m : Int) (a : Nat), a < top32 → ∀ b : Int, (acall E0 3000 f [.agg #[.int .u32 (Int.ofNat a), .int .i64 b]] (VAbs.start m)).map (·.1) = some (.bool (mayB a b))) (prims : Nat → Option (List Value → AS → Option (Value × AS))) : PrimOk (Env.of Tryz.prog (oneGlob 0) prims) f (pFun fNet) := fun_ok ok0 rfl (by
  intro args v hcl e
  unfold fNet at e
  split at e
  · rename_i a b
    cases hb : Nat.ble (Nat.succ a) top32 with
    | false => rw [hb] at e; cases e
    | true =>
      rw [hb] at e; cases e
      exact ⟨rfl, fun m => ⟨3000, h m a (Nat.le_of_ble_eq_true hb) b⟩⟩
  · cases e) rfl rfl
/-! ### Numbers as text -/
def dS (x : Nat) : UInt8 := UInt8.ofNat (48 + x)
def digL (c : Nat) : List UInt8 := cond (Nat.blt c 10) [dS c] (cond (Nat.blt c 100) [dS (c / 10), dS (c % 10)] [dS (c / 100), dS (c / 10 % 10), dS (c % 10)])
theorem digL_len (c : Nat) : (digL c).length ≤ 3 := by
  unfold digL
  cases Nat.blt c 10 <;> cases Nat.blt c 100 <;> simp
noncomputable def digAt (f : Nat) (k : IntKind) (m : Int) (n : Nat) : Bool := match kval E0 3000 f [.int k (Int.ofNat n)] (VAbs.start m) with
  | some (.string s) => eqB s.data.toList (digL n)
  | _ => false
theorem dig_all (m : Int) : upTo (digAt 193 .u8 m) 256 = true := by kernel_rfl
theorem dg2_all (m : Int) : upTo (digAt 172 .i64 m) 100 = true := by kernel_rfl
theorem digAt_ok {f : Nat} {k : IntKind} {m : Int} {n : Nat} (h : digAt f k m n = true) : (acall E0 3000 f [.int k (Int.ofNat n)] (VAbs.start m)).map (·.1) = some (.string ⟨⟨digL n⟩⟩) := by
  apply kval_ok
  unfold digAt at h
  split at h
  · rename_i s hs
    rw [hs]
    have : s.data.toList = digL n := (eqB_iff _ _).1 h
    obtain ⟨⟨l⟩⟩ := s
    have e : l = digL n := this
    rw [e]
  · cases h
def fDig : List Value → Option Value
  | [.int .u8 z] => cond (decide (0 ≤ z) && decide (z < 256)) (some (.string ⟨⟨digL z.toNat⟩⟩)) none
  | _ => none
def fDg2 : List Value → Option Value
  | [.int .i64 z] => cond (decide (0 ≤ z) && decide (z < 100)) (some (.string ⟨⟨digL z.toNat⟩⟩)) none
  | _ => none
theorem int_below {z : Int} {n : Nat} (h : (decide (0 ≤ z) && decide (z < (n : Int))) = true) : ∃ c, z = Int.ofNat c ∧ c < n := by
  rw [Bool.and_eq_true, decide_eq_true_eq, decide_eq_true_eq] at h
  refine ⟨z.toNat, ?_, by omega⟩
  show z = (z.toNat : Int); omega
theorem dig_ok (prims : Nat → Option (List Value → AS → Option (Value × AS))) : PrimOk (Env.of Tryz.prog (oneGlob 0) prims) 193 (pFun fDig) := fun_ok ok0 rfl (by
  intro args v hcl e
  unfold fDig at e
  split at e
  · rename_i z
    cases hb : decide (0 ≤ z) && decide (z < 256) with
    | false => rw [hb] at e; cases e
    | true =>
      rw [hb] at e; cases e
      obtain ⟨c, rfl, hc⟩ := int_below (n := 256) hb
      exact ⟨rfl, fun m => ⟨3000, digAt_ok (upTo_ok (dig_all m) c hc)⟩⟩
  · cases e) rfl rfl
theorem dg2_ok (prims : Nat → Option (List Value → AS → Option (Value × AS))) : PrimOk (Env.of Tryz.prog (oneGlob 0) prims) 172 (pFun fDg2) := fun_ok ok0 rfl (by
  intro args v hcl e
  unfold fDg2 at e
  split at e
  · rename_i z
    cases hb : decide (0 ≤ z) && decide (z < 100) with
    | false => rw [hb] at e; cases e
    | true =>
      rw [hb] at e; cases e
      obtain ⟨c, rfl, hc⟩ := int_below (n := 100) hb
      exact ⟨rfl, fun m => ⟨3000, digAt_ok (upTo_ok (dg2_all m) c hc)⟩⟩
  · cases e) rfl rfl
/-! ### A pool's key, along its path -/
noncomputable def prims4 : Nat → Option (List Value → AS → Option (Value × AS))
  | 111 => some (pFun fNet)
  | 193 => some (pFun fDig)
  | 172 => some (pFun fDg2)
  | n => prims0 n
noncomputable def E4 : Env := Env.of Tryz.prog (oneGlob 0) prims4
theorem ok4 : ProgOk E4 := by
  refine progOk_of mixed allOk ?_
  intro n g h
  unfold prims4 at h
  split at h
  · cases h; exact ⟨net_ok mayP_run prims4, _, Tryz.func111, by kernel_rfl⟩
  · cases h; exact ⟨dig_ok prims4, _, Tryz.func193, by kernel_rfl⟩
  · cases h; exact ⟨dg2_ok prims4, _, Tryz.func172, by kernel_rfl⟩
  · exact prims0_ok prims4 n g h
def pNet (args : List Value) (σ : AS) (q : OSt) : Option (Value × AS × OSt) :=
  match maxLenAt σ 0 with
  | some _ => match args with
    | [.agg ⟨[.int .u32 (.ofNat a), .int .i64 b]⟩] => some (.bool (mayB a b), σ, need (Nat.ble (Nat.succ a) top32) q)
    | _ => none
  | none => none
def pDig (args : List Value) (σ : AS) (q : OSt) : Option (Value × AS × OSt) :=
  match maxLenAt σ 0 with
  | some _ => match args with
    | [.int .u8 z] => some (.string ⟨⟨digL z.toNat⟩⟩, σ, need (decide (0 ≤ z) && decide (z < 256)) q)
    | _ => none
  | none => none
def pDg2 (args : List Value) (σ : AS) (q : OSt) : Option (Value × AS × OSt) :=
  match maxLenAt σ 0 with
  | some _ => match args with
    | [.int .i64 z] => some (.string ⟨⟨digL z.toNat⟩⟩, σ, need (decide (0 ≤ z) && decide (z < 100)) q)
    | _ => none
  | none => none
def pReplO (args : List Value) (σ : AS) (q : OSt) : Option (Value × AS × OSt) :=
  match maxLenAt σ 0 with
  | some _ => match args with
    | [.string s, .string o, .string n, .int .i64 k] => some (.string ⟨(Lib.replace s.data.toList o.data.toList n.data.toList k).toArray⟩, σ, need (Nat.blt s.size 4294967281 && Nat.ble 1 o.size && Nat.ble (s.size + Lib.countB s o * n.size) 140737488355328) q)
    | _ => none
  | none => none
def pJoinO (args : List Value) (σ : AS) (q : OSt) : Option (Value × AS × OSt) :=
  match args with
  | [.slice (some a) n c, .string sep] => cond (Nat.ble n c && Nat.ble n 140737488355328 && Nat.blt 0 n) (match σ.read a n with
    | some l => match strsL l with
      | some ss => some (.string ⟨(Lib.join (ss.map (·.data.toList)) sep.data.toList).toArray⟩, σ, need (Nat.ble (Lib.join (ss.map (·.data.toList)) sep.data.toList).length 140737488355328) q)
      | none => none
    | none => none) none
  | _ => none
theorem pNet_ok {args : List Value} {σ σ' : AS} {q q' : OSt} {v : Value} (e : pNet args σ q = some (v, σ', q')) (hq : q'.holds) : pFun fNet args σ = some (v, σ') ∧ q.holds := by
  unfold pNet at e
  split at e
  · rename_i x hx
    split at e
    · rename_i a b
      cases e
      obtain ⟨hb, hq'⟩ := need_holds hq
      refine ⟨?_, hq'⟩
      have hc : ([Value.agg ⟨[.int .u32 (.ofNat a), .int .i64 b]⟩]).all closed = true := rfl
      simp only [pFun, hx, hc, cond_true, fNet, hb]
    · cases e
  · cases e
theorem pDig_ok {args : List Value} {σ σ' : AS} {q q' : OSt} {v : Value} (e : pDig args σ q = some (v, σ', q')) (hq : q'.holds) : pFun fDig args σ = some (v, σ') ∧ q.holds := by
  unfold pDig at e
  split at e
  · rename_i x hx
    split at e
    · rename_i z
      cases e
      obtain ⟨hb, hq'⟩ := need_holds hq
      refine ⟨?_, hq'⟩
      have hc : ([Value.int .u8 z]).all closed = true := rfl
      simp only [pFun, hx, hc, cond_true, fDig, hb]
    · cases e
  · cases e
theorem pDg2_ok {args : List Value} {σ σ' : AS} {q q' : OSt} {v : Value} (e : pDg2 args σ q = some (v, σ', q')) (hq : q'.holds) : pFun fDg2 args σ = some (v, σ') ∧ q.holds := by
  unfold pDg2 at e
  split at e
  · rename_i x hx
    split at e
    · rename_i z
      cases e
      obtain ⟨hb, hq'⟩ := need_holds hq
      refine ⟨?_, hq'⟩
      have hc : ([Value.int .i64 z]).all closed = true := rfl
      simp only [pFun, hx, hc, cond_true, fDg2, hb]
    · cases e
  · cases e
theorem pReplO_ok {args : List Value} {σ σ' : AS} {q q' : OSt} {v : Value} (e : pReplO args σ q = some (v, σ', q')) (hq : q'.holds) : pReplaceL 0 args σ = some (v, σ') ∧ q.holds := by
  unfold pReplO at e
  split at e
  · rename_i x hx
    split at e
    · rename_i s o n k
      cases e
      obtain ⟨hb, hq'⟩ := need_holds hq
      refine ⟨?_, hq'⟩
      simp only [pReplaceL, hx, hb, cond_true]
    · cases e
  · cases e
theorem pJoinO_ok {args : List Value} {σ σ' : AS} {q q' : OSt} {v : Value} (e : pJoinO args σ q = some (v, σ', q')) (hq : q'.holds) : pJoinL args σ = some (v, σ') ∧ q.holds := by
  unfold pJoinO at e
  split at e
  · rename_i a n c sep
    rw [cond_eq_ite] at e
    split at e
    · rename_i hc
      split at e
      · rename_i l hl
        split at e
        · rename_i ss hss
          cases e
          obtain ⟨hb, hq'⟩ := need_holds hq
          refine ⟨?_, hq'⟩
          cases n with
          | zero => simp at hc
          | succ n => simp only [pJoinL, hc, cond_true, hl, hss, hb]
        · cases e
      · cases e
    · cases e
  · cases e
noncomputable def pO4 : Nat → Option (List Value → AS → OSt → Option (Value × AS × OSt))
  | 111 => some pNet
  | 193 => some pDig
  | 172 => some pDg2
  | 140 => some pReplO
  | 194 => some pJoinO
  | _ => none
theorem sym4 (sym : Nat → Bool) (k : Nat) : VAbs.OSound (acall E4 k) (acallO E4 sym pO4 k) := by
  refine VAbs.acallO_ok (fun n g h => ?_) k
  unfold pO4 at h
  split at h
  · cases h; exact ⟨pFun fNet, rfl, fun args σ q v σ' q' e hq => pNet_ok e hq⟩
  · cases h; exact ⟨pFun fDig, rfl, fun args σ q v σ' q' e hq => pDig_ok e hq⟩
  · cases h; exact ⟨pFun fDg2, rfl, fun args σ q v σ' q' e hq => pDg2_ok e hq⟩
  · cases h; exact ⟨pReplaceL 0, rfl, fun args σ q v σ' q' e hq => pReplO_ok e hq⟩
  · cases h; exact ⟨pJoinL, rfl, fun args σ q v σ' q' e hq => pJoinO_ok e hq⟩
  · cases h
def poSym : Nat → Bool
  | 67 | 112 | 141 | 171 => true
  | _ => false
def oPo : List Bool := [false, false, false, false, false, false, true, true, true, true, false]
noncomputable def poRun (m : Int) (a : Nat) (b : Int) : Option (Go.Value × AS × OSt) := acallO E4 poSym pO4 3000 67 [.agg #[.int .u32 (Int.ofNat a), .int .i64 b]] (VAbs.start m) ⟨oPo, []⟩
def strOf : Option Value → ByteArray
  | some (.tuple ⟨[.string s, _]⟩) => s
  | _ => ⟨#[]⟩
noncomputable def poolS (a : Nat) (b : Int) : ByteArray := strOf (VAbs.valOf (poRun 0 a b))
theorem vPo (m : Int) (a : Nat) (b : Int) : VAbs.valOf (poRun m a b) = some (.tuple #[.string (poolS a b), .int .i64 0]) := by kernel_rfl
/-! The sizes of what is printed. -/
def zB (a k : Nat) : Int := IntKind.u8.wrap ((Int.ofNat a).fdiv (2 ^ k))
def partsB (a : Nat) : List ByteArray := [⟨⟨digL (zB a 24).toNat⟩⟩, ⟨⟨digL (zB a 16).toNat⟩⟩, ⟨⟨digL (zB a 8).toNat⟩⟩, ⟨⟨digL (zB a 0).toNat⟩⟩]
def jL (a : Nat) : List UInt8 := Lib.join ((partsB a).map (fun (x : ByteArray) => x.data.toList)) [46]
def pB (a : Nat) (b : Int) : ByteArray := ⟨(jL a).toArray⟩ ++ ⟨#[47]⟩ ++ ⟨⟨digL b.toNat⟩⟩
def rB (a : Nat) (b : Int) : ByteArray := ⟨(Lib.replace (pB a b).data.toList [47] [45] 1).toArray⟩
theorem zB_ok (a k : Nat) : (decide (0 ≤ zB a k) && decide (zB a k < 256)) = true := by
  unfold zB IntKind.wrap
  generalize (Int.ofNat a).fdiv (2 ^ k) = z
  have h1 : (0 : Int) ≤ z % 2 ^ IntKind.u8.bits := Int.emod_nonneg _ (by decide)
  have h2 : z % 2 ^ IntKind.u8.bits < 2 ^ IntKind.u8.bits := Int.emod_lt_of_pos _ (by decide)
  have h3 : ((2 : Int) ^ IntKind.u8.bits) = 256 := by decide
  have hs : IntKind.u8.signed = false := rfl
  simp only [hs, Bool.false_and, Bool.false_eq_true, if_false]
  rw [h3] at h1 h2 ⊢
  simp [h1, h2]
theorem jL_len (a : Nat) : (jL a).length ≤ 15 := by
  have e : jL a = digL (zB a 24).toNat ++ Lib.joinTail [46] [digL (zB a 16).toNat, digL (zB a 8).toNat, digL (zB a 0).toNat] := Lib.join_cons _ _ _
  rw [e, List.length_append]
  have h0 := digL_len (zB a 24).toNat
  have h1 := digL_len (zB a 16).toNat
  have h2 := digL_len (zB a 8).toNat
  have h3 := digL_len (zB a 0).toNat
  simp only [Lib.joinTail, List.map_cons, List.map_nil, List.flatten_cons, List.flatten_nil, List.length_append, List.length_cons, List.length_nil]
  omega
theorem pB_len (a : Nat) (b : Int) : (pB a b).size ≤ 19 := by
  have h0 := jL_len a
  have h1 := digL_len b.toNat
  have e : (pB a b).size = (jL a).length + 1 + (digL b.toNat).length := by
    unfold pB
    rw [ByteArray.size_append, ByteArray.size_append]
    rfl
  omega
theorem replaceK_len (old new : List UInt8) : ∀ (k : Nat) (s : List UInt8), (Lib.replaceK old new k s).length ≤ s.length + k * new.length
  | 0, s => by simp [Lib.replaceK]
  | k + 1, s => by
    rw [Lib.replaceK]
    split
    · omega
    · have ih := replaceK_len old new k (s.drop ((Lib.index s old).toNat + old.length))
      simp only [List.length_append, List.length_take, List.length_drop] at ih ⊢
      rw [Nat.add_mul, Nat.one_mul]
      omega
theorem rB_len (a : Nat) (b : Int) : (rB a b).size ≤ 20 := by
  have h0 := pB_len a b
  have hs : (pB a b).data.toList.length = (pB a b).size := Array.length_toList
  have e : (rB a b).size = (Lib.replace (pB a b).data.toList [47] [45] 1).length := by
    show ((Lib.replace (pB a b).data.toList [47] [45] 1).toArray).size = _
    exact List.size_toArray
  rw [e, Lib.replace]
  split
  · omega
  · have h1 := replaceK_len [47] [45] (Lib.replaceNum (pB a b).data.toList [47] 1) (pB a b).data.toList
    have h2 : Lib.replaceNum (pB a b).data.toList [47] 1 ≤ 1 := by
      unfold Lib.replaceNum
      split <;> omega
    simp only [List.length_cons, List.length_nil] at h1
    omega
def mPo : List Bool := [true, true, true, true, true, true, false, true, false, true, false, true, false, true, false, true, true, true, true, true, true, true, true]
theorem rPo (m : Int) (a : Nat) (b : Int) : VAbs.maskAll mPo (VAbs.condsOf (poRun m a b)) = true := by kernel_rfl
def sl : ByteArray := ⟨#[47]⟩
def poL (a : Nat) (b : Int) : List (Bool × Bool) := [(decide ((((⟨#[112, 111, 111, 108, 47]⟩ : ByteArray).size + (rB a b).size : Nat) : Int) ≤ IntKind.i64.max), true),
  (Nat.blt (pB a b).size 4294967281 && Nat.ble 1 sl.size && Nat.ble ((pB a b).size + Lib.countB (pB a b) sl * (⟨#[45]⟩ : ByteArray).size) 140737488355328, true),
  (decide ((((⟨(jL a).toArray⟩ ++ sl : ByteArray).size + (⟨⟨digL b.toNat⟩⟩ : ByteArray).size : Nat) : Int) ≤ IntKind.i64.max), true),
  (decide (0 ≤ b) && decide (b < 100), true),
  (decide ((((⟨(jL a).toArray⟩ : ByteArray).size + sl.size : Nat) : Int) ≤ IntKind.i64.max), true),
  (Nat.ble (jL a).length 140737488355328, true),
  (decide (0 ≤ zB a 0) && decide (zB a 0 < 256), true), (decide (0 ≤ zB a 8) && decide (zB a 8 < 256), true), (decide (0 ≤ zB a 16) && decide (zB a 16 < 256), true), (decide (0 ≤ zB a 24) && decide (zB a 24 < 256), true),
  (!mayB a b, false), (Nat.ble (Nat.succ a) top32, true), (decide (b > 26), false), (!mayB a b, false), (!mayB a b, false), (!mayB a b, false), (!mayB a b, false), (Nat.ble (Nat.succ a) top32, true)]
theorem pPo (m : Int) (a : Nat) (b : Int) : VAbs.pickL mPo (VAbs.condsOf (poRun m a b)) = poL a b := by kernel_rfl
theorem poL_ok (a : Nat) (b : Int) (ha : a < top32) (hb : mayB a b = true) (h0 : 0 ≤ b) (h1 : b ≤ 26) : ∀ p ∈ poL a b, p.1 = p.2 := by
  have hm : IntKind.i64.max = 9223372036854775807 := by decide
  have e1 := rB_len a b
  have e2 := pB_len a b
  have e3 := jL_len a
  have e4 := digL_len b.toNat
  have s1 : (⟨(jL a).toArray⟩ : ByteArray).size = (jL a).length := List.size_toArray
  have s2 : (⟨⟨digL b.toNat⟩⟩ : ByteArray).size = (digL b.toNat).length := rfl
  have s3 : (⟨(jL a).toArray⟩ ++ sl : ByteArray).size = (jL a).length + 1 := by rw [ByteArray.size_append, s1]; rfl
  have s4 : sl.size = 1 := rfl
  have s5 : (⟨#[112, 111, 111, 108, 47]⟩ : ByteArray).size = 5 := rfl
  have s6 : (⟨#[45]⟩ : ByteArray).size = 1 := rfl
  have hc : Lib.countB (pB a b) sl * sl.size ≤ (pB a b).size := Lib.countB_mul_le sl (by rw [s4]; omega) (pB a b).size (pB a b) (Nat.le_refl _)
  rw [s4] at hc
  have c1 : decide ((((⟨#[112, 111, 111, 108, 47]⟩ : ByteArray).size + (rB a b).size : Nat) : Int) ≤ IntKind.i64.max) = true := by rw [hm, s5]; exact decide_eq_true (by omega)
  have c2 : (Nat.blt (pB a b).size 4294967281 && Nat.ble 1 sl.size && Nat.ble ((pB a b).size + Lib.countB (pB a b) sl * (⟨#[45]⟩ : ByteArray).size) 140737488355328) = true := by
    have q1 : Nat.blt (pB a b).size 4294967281 = true := Nat.ble_eq_true_of_le (by omega)
    have q2 : Nat.ble 1 sl.size = true := rfl
    have q3 : Nat.ble ((pB a b).size + Lib.countB (pB a b) sl * (⟨#[45]⟩ : ByteArray).size) 140737488355328 = true := Nat.ble_eq_true_of_le (by rw [s6]; omega)
    rw [q1, q2, q3]; rfl
  have c3 : decide ((((⟨(jL a).toArray⟩ ++ sl : ByteArray).size + (⟨⟨digL b.toNat⟩⟩ : ByteArray).size : Nat) : Int) ≤ IntKind.i64.max) = true := by rw [hm, s3, s2]; exact decide_eq_true (by omega)
  have c4 : (decide (0 ≤ b) && decide (b < 100)) = true := by rw [decide_eq_true h0, decide_eq_true (show b < 100 by omega)]; rfl
  have c5 : decide ((((⟨(jL a).toArray⟩ : ByteArray).size + sl.size : Nat) : Int) ≤ IntKind.i64.max) = true := by rw [hm, s1, s4]; exact decide_eq_true (by omega)
  have c6 : Nat.ble (jL a).length 140737488355328 = true := Nat.ble_eq_true_of_le (by omega)
  have c7 : Nat.ble (Nat.succ a) top32 = true := Nat.ble_eq_true_of_le ha
  have c8 : decide (b > 26) = false := decide_eq_false (by omega)
  unfold poL
  rw [c1, c2, c3, c4, c5, c6, c7, c8, hb, zB_ok, zB_ok, zB_ok, zB_ok]
  simp
theorem pool_run (m : Int) (a : Nat) (b : Int) (ha : a < top32) (hb : mayB a b = true) (h0 : 0 ≤ b) (h1 : b ≤ 26) : (acall E4 3000 67 [.agg #[.int .u32 (Int.ofNat a), .int .i64 b]] (VAbs.start m)).map (·.1) = some (.tuple #[.string (poolS a b), .int .i64 0]) := by
  refine VAbs.path_ok (sym4 poSym 3000) mPo (vPo m a b) (rPo m a b) fun p hq => ?_
  have hq' : p ∈ VAbs.pickL mPo (VAbs.condsOf (poRun m a b)) := hq
  rw [pPo] at hq'
  exact poL_ok a b ha hb h0 h1 p hq'
/-! ### Is a pool right? -/
def cutB : Int → Bool
  | .ofNat n => Nat.ble 16 n && Nat.ble n 26
  | .negSucc _ => false
def rpB (a : Nat) (b : Int) : Bool := mayB a b && cutB b
noncomputable def kEnd (v : Value) (_ : AS) : KR := some (v, (⟨.e, 0, []⟩ : AS))
noncomputable def kB (b : Bool) : KR := some (.bool b, (⟨.e, 0, []⟩ : AS))
def rP (f : Nat) (n : Nat) : Prop := ∀ (a : Nat) (o : Bool) (m : Int), kcall E0 3000 f [.agg #[.int .u32 (Int.ofNat a), .int .i64 (Int.ofNat n), .bool o]] (VAbs.start m) kEnd = Bool.rec (motive := fun _ => KR) (kB false) (kB (cutB (Int.ofNat n))) (andB a (4294967296 - 2 ^ (32 - n)))
def rQ (f : Nat) (n : Nat) : Prop := ∀ (a : Nat) (o : Bool) (m : Int), kcall E0 3000 f [.agg #[.int .u32 (Int.ofNat a), .int .i64 (Int.ofNat n), .bool o]] (VAbs.start m) kEnd = Bool.rec (motive := fun _ => KR) none (Bool.rec (motive := fun _ => KR) (kB false) (kB (cutB (Int.ofNat n))) (Nat.beq (Nat.mod a (Nat.pow 2 (Nat.sub 32 n))) 0)) (Nat.ble (Nat.succ a) top32)
def rPn (f : Nat) : Prop := ∀ (a d : Nat) (o : Bool) (m : Int), kcall E0 3000 f [.agg #[.int .u32 (Int.ofNat a), .int .i64 (Int.ofNat (d + 33)), .bool o]] (VAbs.start m) kEnd = kB false
def rPz (f : Nat) : Prop := ∀ (a d : Nat) (o : Bool) (m : Int), kcall E0 3000 f [.agg #[.int .u32 (Int.ofNat a), .int .i64 (Int.negSucc d), .bool o]] (VAbs.start m) kEnd = kB false
theorem rp_0 : rP 66 0 := by intro a o m; kernel_rfl
theorem rp_1 : rP 66 1 := by intro a o m; kernel_rfl
theorem rp_2 : rP 66 2 := by intro a o m; kernel_rfl
theorem rp_3 : rP 66 3 := by intro a o m; kernel_rfl
theorem rp_4 : rP 66 4 := by intro a o m; kernel_rfl
theorem rp_5 : rP 66 5 := by intro a o m; kernel_rfl
theorem rp_6 : rP 66 6 := by intro a o m; kernel_rfl
theorem rp_7 : rP 66 7 := by intro a o m; kernel_rfl
theorem rp_8 : rP 66 8 := by intro a o m; kernel_rfl
theorem rp_9 : rP 66 9 := by intro a o m; kernel_rfl
theorem rp_10 : rP 66 10 := by intro a o m; kernel_rfl
theorem rp_11 : rP 66 11 := by intro a o m; kernel_rfl
theorem rp_12 : rP 66 12 := by intro a o m; kernel_rfl
theorem rp_13 : rP 66 13 := by intro a o m; kernel_rfl
theorem rp_14 : rP 66 14 := by intro a o m; kernel_rfl
theorem rp_15 : rP 66 15 := by intro a o m; kernel_rfl
theorem rp_16 : rP 66 16 := by intro a o m; kernel_rfl
theorem rp_17 : rP 66 17 := by intro a o m; kernel_rfl
theorem rp_18 : rP 66 18 := by intro a o m; kernel_rfl
theorem rp_19 : rP 66 19 := by intro a o m; kernel_rfl
theorem rp_20 : rP 66 20 := by intro a o m; kernel_rfl
theorem rp_21 : rP 66 21 := by intro a o m; kernel_rfl
theorem rp_22 : rP 66 22 := by intro a o m; kernel_rfl
theorem rp_23 : rP 66 23 := by intro a o m; kernel_rfl
theorem rp_24 : rP 66 24 := by intro a o m; kernel_rfl
theorem rp_25 : rP 66 25 := by intro a o m; kernel_rfl
theorem rp_26 : rP 66 26 := by intro a o m; kernel_rfl
theorem rp_27 : rP 66 27 := by intro a o m; kernel_rfl
theorem rp_28 : rP 66 28 := by intro a o m; kernel_rfl
theorem rp_29 : rP 66 29 := by intro a o m; kernel_rfl
theorem rp_30 : rP 66 30 := by intro a o m; kernel_rfl
theorem rp_31 : rP 66 31 := by intro a o m; kernel_rfl
theorem rp_32 : rP 66 32 := by intro a o m; kernel_rfl
theorem rq_0 : rQ 21 0 := by intro a o m; kernel_rfl
theorem rq_1 : rQ 21 1 := by intro a o m; kernel_rfl
theorem rq_2 : rQ 21 2 := by intro a o m; kernel_rfl
theorem rq_3 : rQ 21 3 := by intro a o m; kernel_rfl
theorem rq_4 : rQ 21 4 := by intro a o m; kernel_rfl
theorem rq_5 : rQ 21 5 := by intro a o m; kernel_rfl
theorem rq_6 : rQ 21 6 := by intro a o m; kernel_rfl
theorem rq_7 : rQ 21 7 := by intro a o m; kernel_rfl
theorem rq_8 : rQ 21 8 := by intro a o m; kernel_rfl
theorem rq_9 : rQ 21 9 := by intro a o m; kernel_rfl
theorem rq_10 : rQ 21 10 := by intro a o m; kernel_rfl
theorem rq_11 : rQ 21 11 := by intro a o m; kernel_rfl
theorem rq_12 : rQ 21 12 := by intro a o m; kernel_rfl
theorem rq_13 : rQ 21 13 := by intro a o m; kernel_rfl
theorem rq_14 : rQ 21 14 := by intro a o m; kernel_rfl
theorem rq_15 : rQ 21 15 := by intro a o m; kernel_rfl
theorem rq_16 : rQ 21 16 := by intro a o m; kernel_rfl
theorem rq_17 : rQ 21 17 := by intro a o m; kernel_rfl
theorem rq_18 : rQ 21 18 := by intro a o m; kernel_rfl
theorem rq_19 : rQ 21 19 := by intro a o m; kernel_rfl
theorem rq_20 : rQ 21 20 := by intro a o m; kernel_rfl
theorem rq_21 : rQ 21 21 := by intro a o m; kernel_rfl
theorem rq_22 : rQ 21 22 := by intro a o m; kernel_rfl
theorem rq_23 : rQ 21 23 := by intro a o m; kernel_rfl
theorem rq_24 : rQ 21 24 := by intro a o m; kernel_rfl
theorem rq_25 : rQ 21 25 := by intro a o m; kernel_rfl
theorem rq_26 : rQ 21 26 := by intro a o m; kernel_rfl
theorem rq_27 : rQ 21 27 := by intro a o m; kernel_rfl
theorem rq_28 : rQ 21 28 := by intro a o m; kernel_rfl
theorem rq_29 : rQ 21 29 := by intro a o m; kernel_rfl
theorem rq_30 : rQ 21 30 := by intro a o m; kernel_rfl
theorem rq_31 : rQ 21 31 := by intro a o m; kernel_rfl
theorem rq_32 : rQ 21 32 := by intro a o m; kernel_rfl
theorem rp_all : ∀ n, n < 33 → rP 66 n := allP_ok (n := 33) ⟨rp_32, rp_31, rp_30, rp_29, rp_28, rp_27, rp_26, rp_25, rp_24, rp_23, rp_22, rp_21, rp_20, rp_19, rp_18, rp_17, rp_16, rp_15, rp_14, rp_13, rp_12, rp_11, rp_10, rp_9, rp_8, rp_7, rp_6, rp_5, rp_4, rp_3, rp_2, rp_1, rp_0, trivial⟩
theorem rq_all : ∀ n, n < 33 → rQ 21 n := allP_ok (n := 33) ⟨rq_32, rq_31, rq_30, rq_29, rq_28, rq_27, rq_26, rq_25, rq_24, rq_23, rq_22, rq_21, rq_20, rq_19, rq_18, rq_17, rq_16, rq_15, rq_14, rq_13, rq_12, rq_11, rq_10, rq_9, rq_8, rq_7, rq_6, rq_5, rq_4, rq_3, rq_2, rq_1, rq_0, trivial⟩
theorem rpn : rPn 66 := by intro a d o m; kernel_rfl
theorem rpz : rPz 66 := by intro a d o m; kernel_rfl
theorem rqn : rPn 21 := by intro a d o m; kernel_rfl
theorem rqz : rPz 21 := by intro a d o m; kernel_rfl
theorem rpB_le {a n : Nat} (h : n ≤ 32) : rpB a (Int.ofNat n) = (Nat.beq (Nat.mod a (Nat.pow 2 (Nat.sub 32 n))) 0 && cutB (Int.ofNat n)) := by unfold rpB; rw [mayB_le h]
theorem rpB_gt (a d : Nat) : rpB a (Int.ofNat (d + 33)) = false := by unfold rpB; rw [mayB_gt, Bool.false_and]
theorem kB_val {f : Nat} {args : List Value} {m : Int} {b : Bool} (h : kcall E0 3000 f args (VAbs.start m) kEnd = kB b) : (acall E0 3000 f args (VAbs.start m)).map (·.1) = some (.bool b) := kcall_val (r := (_, _)) h
theorem rP_run (m : Int) (a : Nat) (o : Bool) (ha : a < top32) : ∀ b : Int, (acall E0 3000 66 [.agg #[.int .u32 (Int.ofNat a), .int .i64 b, .bool o]] (VAbs.start m)).map (·.1) = some (.bool (rpB a b)) := by
  refine net_cases (fun n hn => ?_) (fun d => ?_) (fun d => ?_)
  · refine kB_val ?_
    rw [rp_all n hn a o m, andB_eq ha (by omega) (nt_all n hn), rpB_le (by omega)]
    have e : Nat.beq (Nat.mod a (Nat.pow 2 (32 - n))) 0 = Nat.beq (Nat.mod a (Nat.pow 2 (Nat.sub 32 n))) 0 := rfl
    rw [e]
    cases Nat.beq (Nat.mod a (Nat.pow 2 (Nat.sub 32 n))) 0 <;> rfl
  · refine kB_val ?_
    rw [rpn a d o m, rpB_gt]
  · exact kB_val (rpz a d o m)
theorem rQ_run (m : Int) (a : Nat) (o : Bool) (ha : a < top32) : ∀ b : Int, (acall E0 3000 21 [.agg #[.int .u32 (Int.ofNat a), .int .i64 b, .bool o]] (VAbs.start m)).map (·.1) = some (.bool (rpB a b)) := by
  refine net_cases (fun n hn => ?_) (fun d => ?_) (fun d => ?_)
  · refine kB_val ?_
    rw [rq_all n hn a o m, Nat.ble_eq_true_of_le (show Nat.succ a ≤ top32 from ha), rpB_le (by omega)]
    cases Nat.beq (Nat.mod a (Nat.pow 2 (Nat.sub 32 n))) 0 <;> rfl
  · refine kB_val ?_
    rw [rqn a d o m, rpB_gt]
  · exact kB_val (rqz a d o m)
def fRP : List Value → Option Value
  | [.agg ⟨[.int .u32 (.ofNat a), .int .i64 b, .bool o]⟩] => cond (Nat.ble (Nat.succ a) top32) (some (.bool (rpB a b))) none
  | _ => none
noncomputable def fPool : List Value → Option Value
  | [.agg ⟨[.int .u32 (.ofNat a), .int .i64 b]⟩] => cond (Nat.ble (Nat.succ a) top32 && rpB a b) (some (.tuple #[.string (poolS a b), .int .i64 0])) none
  | _ => none
def shortS (s : ByteArray) : ByteArray := cond (Nat.ble (Nat.succ 70) s.data.toList.length) ⟨⟨s.data.toList.take 70⟩⟩ s
def fShort : List Value → Option Value
  | [.agg ⟨[.int .i64 k, .int .u32 a, .int .i64 b, .string s]⟩] => some (.agg #[.int .i64 k, .int .u32 a, .int .i64 b, .string (shortS s)])
  | _ => none
theorem short_k (m k a b : Int) (s : ByteArray) : kcall E0 3000 4 [.agg #[.int .i64 k, .int .u32 a, .int .i64 b, .string s]] (VAbs.start m) kEnd =
    Bool.rec (motive := fun _ => KR) (kEnd (.agg #[.int .i64 k, .int .u32 a, .int .i64 b, .string s]) (VAbs.start m)) (Bool.rec (motive := fun _ => KR) none (kEnd (.agg #[.int .i64 k, .int .u32 a, .int .i64 b, .string ⟨⟨s.data.toList.take 70⟩⟩]) (VAbs.start m)) (Nat.ble 70 s.data.toList.length)) (Nat.ble (Nat.succ 70) s.data.toList.length) := by kernel_rfl
theorem short_run (m k a b : Int) (s : ByteArray) : (acall E0 3000 4 [.agg #[.int .i64 k, .int .u32 a, .int .i64 b, .string s]] (VAbs.start m)).map (·.1) = some (.agg #[.int .i64 k, .int .u32 a, .int .i64 b, .string (shortS s)]) := by
  have h := short_k m k a b s
  unfold shortS
  cases hb : Nat.ble (Nat.succ 70) s.data.toList.length with
  | false => rw [hb] at h; exact kcall_val (r := (_, _)) h
  | true =>
    have hb' : Nat.ble 70 s.data.toList.length = true := Nat.ble_eq_true_of_le (by have := Nat.le_of_ble_eq_true hb; omega)
    rw [hb, hb'] at h; exact kcall_val (r := (_, _)) h
theorem rp_ok {f : Nat} (h : ∀ (m : Int) (a : Nat) (o : Bool), a < top32 → ∀ b : Int, (acall E0 3000 f [.agg #[.int .u32 (Int.ofNat a), .int .i64 b, .bool o]] (VAbs.start m)).map (·.1) = some (.bool (rpB a b))) (prims : Nat → Option (List Value → AS → Option (Value × AS))) : PrimOk (Env.of Tryz.prog (oneGlob 0) prims) f (pFun fRP) := fun_ok ok0 rfl (by
  intro args v hcl e
  unfold fRP at e
  split at e
  · rename_i a b o
    cases hb : Nat.ble (Nat.succ a) top32 with
    | false => rw [hb] at e; cases e
    | true =>
      rw [hb] at e; cases e
      exact ⟨rfl, fun m => ⟨3000, h m a o (Nat.le_of_ble_eq_true hb) b⟩⟩
  · cases e) rfl rfl
theorem cutB_ok {b : Int} (h : cutB b = true) : 0 ≤ b ∧ b ≤ 26 := by
  cases b with
  | negSucc d => cases h
  | ofNat n =>
    unfold cutB at h
    rw [Bool.and_eq_true] at h
    have := Nat.le_of_ble_eq_true h.2
    have e : (Int.ofNat n : Int) = (n : Int) := rfl
    omega
theorem pool_ok (prims : Nat → Option (List Value → AS → Option (Value × AS))) : PrimOk (Env.of Tryz.prog (oneGlob 0) prims) 67 (pFun fPool) := fun_ok ok4 rfl (by
  intro args v hcl e
  unfold fPool at e
  split at e
  · rename_i a b
    cases hb : Nat.ble (Nat.succ a) top32 && rpB a b with
    | false => rw [hb] at e; cases e
    | true =>
      rw [hb] at e; cases e
      rw [Bool.and_eq_true] at hb
      have h2 := hb.2
      unfold rpB at h2
      rw [Bool.and_eq_true] at h2
      obtain ⟨q0, q1⟩ := cutB_ok h2.2
      exact ⟨rfl, fun m => ⟨3000, pool_run m a b (Nat.le_of_ble_eq_true hb.1) h2.1 q0 q1⟩⟩
  · cases e) rfl rfl
theorem short_ok (prims : Nat → Option (List Value → AS → Option (Value × AS))) : PrimOk (Env.of Tryz.prog (oneGlob 0) prims) 4 (pFun fShort) := fun_ok ok0 rfl (by
  intro args v hcl e
  unfold fShort at e
  split at e
  · cases e; exact ⟨rfl, fun m => ⟨3000, short_run m _ _ _ _⟩⟩
  · cases e) rfl rfl
/-! ### The law -/
noncomputable def prims3 : Nat → Option (List Value → AS → Option (Value × AS))
  | 121 => some (pFun fRight)
  | 22 => some (pFun fRef)
  | 7 => some (pClosed (.bool true))
  | 67 => some (pFun fPool)
  | 66 => some (pFun fRP)
  | 21 => some (pFun fRP)
  | 4 => some (pFun fShort)
  | n => prims0 n
noncomputable def E3 : Env := Env.of Tryz.prog (oneGlob 0) prims3
theorem ok3 : ProgOk E3 := by
  refine progOk_of mixed allOk ?_
  intro n g h
  unfold prims3 at h
  split at h
  · cases h; exact ⟨right_ok prims3, _, Tryz.func121, by kernel_rfl⟩
  · cases h; exact ⟨ref_ok prims3, _, Tryz.func22, by kernel_rfl⟩
  · cases h; exact ⟨closed_ok ok0 rfl rfl awake rfl rfl, _, Tryz.func7, by kernel_rfl⟩
  · cases h; exact ⟨pool_ok prims3, _, Tryz.func67, by kernel_rfl⟩
  · cases h; exact ⟨rp_ok rP_run prims3, _, Tryz.func66, by kernel_rfl⟩
  · cases h; exact ⟨rp_ok rQ_run prims3, _, Tryz.func21, by kernel_rfl⟩
  · cases h; exact ⟨short_ok prims3, _, Tryz.func4, by kernel_rfl⟩
  · exact prims0_ok prims3 n g h
def pRef (args : List Value) (σ : AS) (q : OSt) : Option (Value × AS × OSt) :=
  match maxLenAt σ 0 with
  | some _ => match args with
    | [.string s] => some (.bool (rightB s), σ, need (Nat.ble s.size capN) q)
    | _ => none
  | none => none
def pRP (args : List Value) (σ : AS) (q : OSt) : Option (Value × AS × OSt) :=
  match maxLenAt σ 0 with
  | some _ => match args with
    | [.agg ⟨[.int .u32 (.ofNat a), .int .i64 b, .bool o]⟩] => some (.bool (rpB a b), σ, need (Nat.ble (Nat.succ a) top32) q)
    | _ => none
  | none => none
noncomputable def pPool (args : List Value) (σ : AS) (q : OSt) : Option (Value × AS × OSt) :=
  match maxLenAt σ 0 with
  | some _ => match args with
    | [.agg ⟨[.int .u32 (.ofNat a), .int .i64 b]⟩] => some (.tuple #[.string (poolS a b), .int .i64 0], σ, need (Nat.ble (Nat.succ a) top32 && rpB a b) q)
    | _ => none
  | none => none
theorem pRef_ok {args : List Value} {σ σ' : AS} {q q' : OSt} {v : Value} (e : pRef args σ q = some (v, σ', q')) (hq : q'.holds) : pFun fRef args σ = some (v, σ') ∧ q.holds := by
  unfold pRef at e
  split at e
  · rename_i x hx
    split at e
    · rename_i s
      cases e
      obtain ⟨hb, hq'⟩ := need_holds hq
      refine ⟨?_, hq'⟩
      have hc : ([Value.string s]).all closed = true := rfl
      simp only [pFun, hx, hc, cond_true, fRef, hb]
    · cases e
  · cases e
theorem pRP_ok {args : List Value} {σ σ' : AS} {q q' : OSt} {v : Value} (e : pRP args σ q = some (v, σ', q')) (hq : q'.holds) : pFun fRP args σ = some (v, σ') ∧ q.holds := by
  unfold pRP at e
  split at e
  · rename_i x hx
    split at e
    · rename_i a b o
      cases e
      obtain ⟨hb, hq'⟩ := need_holds hq
      refine ⟨?_, hq'⟩
      have hc : ([Value.agg ⟨[.int .u32 (.ofNat a), .int .i64 b, .bool o]⟩]).all closed = true := rfl
      simp only [pFun, hx, hc, cond_true, fRP, hb]
    · cases e
  · cases e
theorem pPool_ok {args : List Value} {σ σ' : AS} {q q' : OSt} {v : Value} (e : pPool args σ q = some (v, σ', q')) (hq : q'.holds) : pFun fPool args σ = some (v, σ') ∧ q.holds := by
  unfold pPool at e
  split at e
  · rename_i x hx
    split at e
    · rename_i a b
      cases e
      obtain ⟨hb, hq'⟩ := need_holds hq
      refine ⟨?_, hq'⟩
      have hc : ([Value.agg ⟨[.int .u32 (.ofNat a), .int .i64 b]⟩]).all closed = true := rfl
      simp only [pFun, hx, hc, cond_true, fPool, hb]
    · cases e
  · cases e
noncomputable def pO28 : Nat → Option (List Value → AS → OSt → Option (Value × AS × OSt))
  | 22 => some pRef
  | 66 => some pRP
  | 21 => some pRP
  | 67 => some pPool
  | _ => none
theorem sym28 (sym : Nat → Bool) (k : Nat) : VAbs.OSound (acall E3 k) (acallO E3 sym pO28 k) := by
  refine VAbs.acallO_ok (fun n g h => ?_) k
  unfold pO28 at h
  split at h
  · cases h; exact ⟨pFun fRef, rfl, fun args σ q v σ' q' e hq => pRef_ok e hq⟩
  · cases h; exact ⟨pFun fRP, rfl, fun args σ q v σ' q' e hq => pRP_ok e hq⟩
  · cases h; exact ⟨pFun fRP, rfl, fun args σ q v σ' q' e hq => pRP_ok e hq⟩
  · cases h; exact ⟨pFun fPool, rfl, fun args σ q v σ' q' e hq => pPool_ok e hq⟩
  · cases h
def adSym : Nat → Bool
  | 3 | 5 | 9 | 10 | 11 | 12 | 13 | 27 | 8 | 47 | 82 | 24 => true
  | _ => false
noncomputable def adRun (o : List Bool) (k : Int) (m : Int) (a : Nat) (b : Int) (s : ByteArray) : Option (Go.Value × AS × OSt) := acallO E3 adSym pO28 3000 3 [.agg #[.int .i64 k, .int .u32 (Int.ofNat a), .int .i64 b, .string s]] (VAbs.start m) ⟨o, []⟩
-- The answers along the paths (printed by wip/tools/Oracle.lean): T: right, F: not right; kinds 0 to 5; No: no kind.
def oT0 : List Bool := [true, false, false, false, true, true, true, true, true, true, false, false, false, false, false, false, false, false, false, false, false, false, false, true, true, true, true, true, false, false, false, false, false, false, false, false, false, false, false, false, false, false, false, false, false, false, false, false, false, false, false, true, true]
theorem vT0 (m : Int) (a : Nat) (b : Int) (s : ByteArray) : VAbs.valOf (adRun oT0 0 m a b s) = some (Go.Value.bool true) := by kernel_rfl
def oF0 : List Bool := [true, true, true, false, true, true, true, true, true, true, true, true, true, true, true, true, true, true, true, true, true, true, true, true, true, true]
theorem vF0 (m : Int) (a : Nat) (b : Int) (s : ByteArray) : VAbs.valOf (adRun oF0 0 m a b s) = some (Go.Value.bool true) := by kernel_rfl
def oT1 : List Bool := [false, true, true, false, false, false, true, true, true, true, true, true, false, false, false, false, false, false, false, false, false, false, false, false, false, false, false, false, false, false, false, true, true, true, true, true, true, true, true, true, false, true, true]
theorem vT1 (m : Int) (a : Nat) (b : Int) (s : ByteArray) : VAbs.valOf (adRun oT1 1 m a b s) = some (Go.Value.bool true) := by kernel_rfl
def oF1 : List Bool := [false, true, true, true, true, false, true, true, true, true, true, true, true, true, true, true, true, true, true, true, true, true, true, true, true, true, true, true]
theorem vF1 (m : Int) (a : Nat) (b : Int) (s : ByteArray) : VAbs.valOf (adRun oF1 1 m a b s) = some (Go.Value.bool true) := by kernel_rfl
def oT2 : List Bool := [false, false, true, false, false, false, true, true, true, true, true, true, false, false, false, false, false, false, false, false, false, false, false, false, false, false, false, false, false, false, false, true, true, true, true, true, true, true, true, true, false, true, true]
theorem vT2 (m : Int) (a : Nat) (b : Int) (s : ByteArray) : VAbs.valOf (adRun oT2 2 m a b s) = some (Go.Value.bool true) := by kernel_rfl
def oF2 : List Bool := [false, false, true, true, true, false, true, true, true, true, true, true, true, true, true, true, true, true, true, true, true, true, true, true, true, true, true, true]
theorem vF2 (m : Int) (a : Nat) (b : Int) (s : ByteArray) : VAbs.valOf (adRun oF2 2 m a b s) = some (Go.Value.bool true) := by kernel_rfl
def oT3 : List Bool := [false, false, false, true, false, false, false, true, true, true, true, true, true, false, false, false, false, false, false, false, false, false, false, false, false, false, false, false, false, false, false, false, true, true, true, true, true, true, true, true, true, false, true, true]
theorem vT3 (m : Int) (a : Nat) (b : Int) (s : ByteArray) : VAbs.valOf (adRun oT3 3 m a b s) = some (Go.Value.bool true) := by kernel_rfl
def oF3 : List Bool := [false, false, false, true, true, true, false, true, true, true, true, true, true, true, true, true, true, true, true, true, true, true, true, true, true, true, true, true, true]
theorem vF3 (m : Int) (a : Nat) (b : Int) (s : ByteArray) : VAbs.valOf (adRun oF3 3 m a b s) = some (Go.Value.bool true) := by kernel_rfl
def oT4 : List Bool := [false, false, false, false, true, false, false, false, false, false, false, false, false, false, false, false, false, false, true, true, true, true, false, true, false, false, false, false, false, false, false, false, false, true, true, true, true, false, false, false, false, false, false, false, false, false, false, false, false, false, false, true, true, false, false, true, true]
theorem vT4 (m : Int) (a : Nat) (b : Int) (s : ByteArray) : VAbs.valOf (adRun oT4 4 m a b s) = some (Go.Value.bool true) := by kernel_rfl
def oF4 : List Bool := [false, false, false, false, true, true, true, false, false, false, false, false, false, false, false, false, false, false, true, true, true, true, false, true, false, true, true, true, true, true, true, true, true, true, true]
theorem vF4 (m : Int) (a : Nat) (b : Int) (s : ByteArray) : VAbs.valOf (adRun oF4 4 m a b s) = some (Go.Value.bool true) := by kernel_rfl
def oT5 : List Bool := [false, false, false, false, false, true, false, false, false, false, false, false, false, false, false, false, false, false, false, true, true, true, true, false, true, false, false, false, false, false, false, false, false, false, true, true, true, true, false, false, false, false, true, true, true, true, false, true, true]
theorem vT5 (m : Int) (a : Nat) (b : Int) (s : ByteArray) : VAbs.valOf (adRun oT5 5 m a b s) = some (Go.Value.bool true) := by kernel_rfl
def oF5 : List Bool := [false, false, false, false, false, true, true, true, false, false, false, false, false, false, false, false, false, false, false, true, true, true, true, false, true, false, true, true, true, true, true, true, true, true, true, true]
theorem vF5 (m : Int) (a : Nat) (b : Int) (s : ByteArray) : VAbs.valOf (adRun oF5 5 m a b s) = some (Go.Value.bool true) := by kernel_rfl
def oNo : List Bool := [false, false, false, false, false, false, true]
theorem vNo (k : Int) (m : Int) (a : Nat) (b : Int) (s : ByteArray) : VAbs.valOf (adRun oNo k m a b s) = some (Go.Value.bool true) := by kernel_rfl
-- What is left of each path's conditions.
def ndB : ByteArray := ⟨#[110, 111, 100, 101, 47]⟩
def mT0 : List Bool := [false, false, false, false, false, false, false, false, false, false, false, false, false, false, false, false, false, false, false, false, false, false, false, false, false, false, false, false, false, false, false, true, false, true, false, true, false, false, false, false, true, true, true, true, false, false, true, false, false, false, false, false, false, true, true, true, false]
theorem rT0 (m : Int) (a : Nat) (b : Int) (s : ByteArray) : VAbs.maskAll mT0 (VAbs.condsOf (adRun oT0 0 m a b s)) = true := by kernel_rfl
theorem pT0 (m : Int) (a : Nat) (b : Int) (s : ByteArray) : VAbs.pickL mT0 (VAbs.condsOf (adRun oT0 0 m a b s)) = [(decide (((ndB.size + (shortS s).size : Nat) : Int) ≤ IntKind.i64.max), true), (!rpB a b, false), (!rpB a b, false), (!rpB a b, false), (!rpB a b, false), (!rpB a b, false), (!rpB a b, false), (Nat.ble (Nat.succ a) top32, true), (Nat.ble (Nat.succ a) top32 && rpB a b, true), (!rpB a b, false), (Nat.ble (Nat.succ a) top32, true)] := by kernel_rfl
def mF0 : List Bool := [false, false, false, false, false, false, false, false, false, false, true, true, true, true, true, true, false, false, true, false, false, false, false, false, false, true, true, false]
theorem rF0 (m : Int) (a : Nat) (b : Int) (s : ByteArray) : VAbs.maskAll mF0 (VAbs.condsOf (adRun oF0 0 m a b s)) = true := by kernel_rfl
theorem pF0 (m : Int) (a : Nat) (b : Int) (s : ByteArray) : VAbs.pickL mF0 (VAbs.condsOf (adRun oF0 0 m a b s)) = [(!rpB a b, true), (!rpB a b, true), (!rpB a b, true), (!rpB a b, true), (!rpB a b, true), (!rpB a b, true), (Nat.ble (Nat.succ a) top32, true), (!rpB a b, true), (Nat.ble (Nat.succ a) top32, true)] := by kernel_rfl
def mT1 : List Bool := [false, false, false, false, false, false, false, false, false, false, false, false, false, false, false, false, false, false, false, true, false, true, false, true, false, false, false, false, true, true, true, true, false, false, true, false, false, false, false, false, false, true, true, true, false, false, false]
theorem rT1 (m : Int) (a : Nat) (b : Int) (s : ByteArray) : VAbs.maskAll mT1 (VAbs.condsOf (adRun oT1 1 m a b s)) = true := by kernel_rfl
theorem pT1 (m : Int) (a : Nat) (b : Int) (s : ByteArray) : VAbs.pickL mT1 (VAbs.condsOf (adRun oT1 1 m a b s)) = [(decide (((ndB.size + (shortS s).size : Nat) : Int) ≤ IntKind.i64.max), true), (!rpB a b, false), (!rpB a b, false), (!rpB a b, false), (!rpB a b, false), (!rpB a b, false), (!rpB a b, false), (Nat.ble (Nat.succ a) top32, true), (Nat.ble (Nat.succ a) top32 && rpB a b, true), (!rpB a b, false), (Nat.ble (Nat.succ a) top32, true)] := by kernel_rfl
def mF1 : List Bool := [false, false, false, false, false, false, false, false, false, false, true, true, true, true, true, true, false, false, true, false, false, false, false, false, false, true, true, false, false, false]
theorem rF1 (m : Int) (a : Nat) (b : Int) (s : ByteArray) : VAbs.maskAll mF1 (VAbs.condsOf (adRun oF1 1 m a b s)) = true := by kernel_rfl
theorem pF1 (m : Int) (a : Nat) (b : Int) (s : ByteArray) : VAbs.pickL mF1 (VAbs.condsOf (adRun oF1 1 m a b s)) = [(!rpB a b, true), (!rpB a b, true), (!rpB a b, true), (!rpB a b, true), (!rpB a b, true), (!rpB a b, true), (Nat.ble (Nat.succ a) top32, true), (!rpB a b, true), (Nat.ble (Nat.succ a) top32, true)] := by kernel_rfl
def mT2 : List Bool := [false, false, false, false, false, false, false, false, false, false, false, false, false, false, false, false, false, false, false, true, false, true, false, true, false, false, false, false, true, true, true, true, false, false, true, false, false, false, false, false, false, true, true, true, false, false, false]
theorem rT2 (m : Int) (a : Nat) (b : Int) (s : ByteArray) : VAbs.maskAll mT2 (VAbs.condsOf (adRun oT2 2 m a b s)) = true := by kernel_rfl
theorem pT2 (m : Int) (a : Nat) (b : Int) (s : ByteArray) : VAbs.pickL mT2 (VAbs.condsOf (adRun oT2 2 m a b s)) = [(decide (((ndB.size + (shortS s).size : Nat) : Int) ≤ IntKind.i64.max), true), (!rpB a b, false), (!rpB a b, false), (!rpB a b, false), (!rpB a b, false), (!rpB a b, false), (!rpB a b, false), (Nat.ble (Nat.succ a) top32, true), (Nat.ble (Nat.succ a) top32 && rpB a b, true), (!rpB a b, false), (Nat.ble (Nat.succ a) top32, true)] := by kernel_rfl
def mF2 : List Bool := [false, false, false, false, false, false, false, false, false, false, true, true, true, true, true, true, false, false, true, false, false, false, false, false, false, true, true, false, false, false]
theorem rF2 (m : Int) (a : Nat) (b : Int) (s : ByteArray) : VAbs.maskAll mF2 (VAbs.condsOf (adRun oF2 2 m a b s)) = true := by kernel_rfl
theorem pF2 (m : Int) (a : Nat) (b : Int) (s : ByteArray) : VAbs.pickL mF2 (VAbs.condsOf (adRun oF2 2 m a b s)) = [(!rpB a b, true), (!rpB a b, true), (!rpB a b, true), (!rpB a b, true), (!rpB a b, true), (!rpB a b, true), (Nat.ble (Nat.succ a) top32, true), (!rpB a b, true), (Nat.ble (Nat.succ a) top32, true)] := by kernel_rfl
def mT3 : List Bool := [false, false, false, false, false, false, false, false, false, false, false, false, false, false, false, false, false, false, false, true, false, true, false, true, false, false, false, false, true, true, true, true, false, false, true, false, false, false, false, false, false, true, true, true, false, false, false, false]
theorem rT3 (m : Int) (a : Nat) (b : Int) (s : ByteArray) : VAbs.maskAll mT3 (VAbs.condsOf (adRun oT3 3 m a b s)) = true := by kernel_rfl
theorem pT3 (m : Int) (a : Nat) (b : Int) (s : ByteArray) : VAbs.pickL mT3 (VAbs.condsOf (adRun oT3 3 m a b s)) = [(decide (((ndB.size + (shortS s).size : Nat) : Int) ≤ IntKind.i64.max), true), (!rpB a b, false), (!rpB a b, false), (!rpB a b, false), (!rpB a b, false), (!rpB a b, false), (!rpB a b, false), (Nat.ble (Nat.succ a) top32, true), (Nat.ble (Nat.succ a) top32 && rpB a b, true), (!rpB a b, false), (Nat.ble (Nat.succ a) top32, true)] := by kernel_rfl
def mF3 : List Bool := [false, false, false, false, false, false, false, false, false, false, true, true, true, true, true, true, false, false, true, false, false, false, false, false, false, true, true, false, false, false, false]
theorem rF3 (m : Int) (a : Nat) (b : Int) (s : ByteArray) : VAbs.maskAll mF3 (VAbs.condsOf (adRun oF3 3 m a b s)) = true := by kernel_rfl
theorem pF3 (m : Int) (a : Nat) (b : Int) (s : ByteArray) : VAbs.pickL mF3 (VAbs.condsOf (adRun oF3 3 m a b s)) = [(!rpB a b, true), (!rpB a b, true), (!rpB a b, true), (!rpB a b, true), (!rpB a b, true), (!rpB a b, true), (Nat.ble (Nat.succ a) top32, true), (!rpB a b, true), (Nat.ble (Nat.succ a) top32, true)] := by kernel_rfl
def mT4 : List Bool := [false, false, false, false, false, false, false, false, false, false, false, false, false, false, false, false, false, false, false, false, false, false, false, false, false, false, false, false, false, false, false, true, true, false, false, false, false, true, false, false, false, false, false, false, false, false, false, false, false, false, false, false, false, true, true, false, false, false, false, false]
theorem rT4 (m : Int) (a : Nat) (b : Int) (s : ByteArray) : VAbs.maskAll mT4 (VAbs.condsOf (adRun oT4 4 m a b s)) = true := by kernel_rfl
theorem pT4 (m : Int) (a : Nat) (b : Int) (s : ByteArray) : VAbs.pickL mT4 (VAbs.condsOf (adRun oT4 4 m a b s)) = [(decide (((ndB.size + (shortS s).size : Nat) : Int) ≤ IntKind.i64.max), true), (!rightB (shortS s), false), (Nat.ble (shortS s).size capN, true), (decide (((ndB.size + (shortS s).size : Nat) : Int) ≤ IntKind.i64.max), true), (!rightB (shortS s), false)] := by kernel_rfl
def mF4 : List Bool := [false, false, false, false, false, false, false, false, false, true, false, false, false, false, true, false, false, false, false, false, false, false, false, false, false, false, false, false, false, false, true, false, false, false, false, false]
theorem rF4 (m : Int) (a : Nat) (b : Int) (s : ByteArray) : VAbs.maskAll mF4 (VAbs.condsOf (adRun oF4 4 m a b s)) = true := by kernel_rfl
theorem pF4 (m : Int) (a : Nat) (b : Int) (s : ByteArray) : VAbs.pickL mF4 (VAbs.condsOf (adRun oF4 4 m a b s)) = [(!rightB (shortS s), true), (Nat.ble (shortS s).size capN, true), (!rightB (shortS s), true)] := by kernel_rfl
def mT5 : List Bool := [false, false, false, false, false, false, false, false, false, false, false, false, false, false, false, false, false, false, false, false, false, false, true, true, false, false, false, false, true, false, false, false, false, false, false, false, false, false, false, false, false, false, false, false, true, true, false, false, false, false, false, false]
theorem rT5 (m : Int) (a : Nat) (b : Int) (s : ByteArray) : VAbs.maskAll mT5 (VAbs.condsOf (adRun oT5 5 m a b s)) = true := by kernel_rfl
theorem pT5 (m : Int) (a : Nat) (b : Int) (s : ByteArray) : VAbs.pickL mT5 (VAbs.condsOf (adRun oT5 5 m a b s)) = [(decide (((ndB.size + (shortS s).size : Nat) : Int) ≤ IntKind.i64.max), true), (!rightB (shortS s), false), (Nat.ble (shortS s).size capN, true), (decide (((ndB.size + (shortS s).size : Nat) : Int) ≤ IntKind.i64.max), true), (!rightB (shortS s), false)] := by kernel_rfl
def mF5 : List Bool := [false, false, false, false, false, false, false, false, false, true, false, false, false, false, true, false, false, false, false, false, false, false, false, false, false, false, false, false, false, false, true, false, false, false, false, false, false]
theorem rF5 (m : Int) (a : Nat) (b : Int) (s : ByteArray) : VAbs.maskAll mF5 (VAbs.condsOf (adRun oF5 5 m a b s)) = true := by kernel_rfl
theorem pF5 (m : Int) (a : Nat) (b : Int) (s : ByteArray) : VAbs.pickL mF5 (VAbs.condsOf (adRun oF5 5 m a b s)) = [(!rightB (shortS s), true), (Nat.ble (shortS s).size capN, true), (!rightB (shortS s), true)] := by kernel_rfl
def mNo : List Bool := [false, true, true, true, true, true, true]
theorem rNo (k : Int) (m : Int) (a : Nat) (b : Int) (s : ByteArray) : VAbs.maskAll mNo (VAbs.condsOf (adRun oNo k m a b s)) = true := by kernel_rfl
theorem pNo (k : Int) (m : Int) (a : Nat) (b : Int) (s : ByteArray) : VAbs.pickL mNo (VAbs.condsOf (adRun oNo k m a b s)) = [(k == 5, false), (k == 4, false), (k == 3, false), (k == 2, false), (k == 1, false), (k == 0, false)] := by kernel_rfl
theorem shortS_len (s : ByteArray) : (shortS s).size ≤ 70 := by
  unfold shortS
  cases hb : Nat.ble (Nat.succ 70) s.data.toList.length with
  | true =>
    show (s.data.toList.take 70).length ≤ 70
    rw [List.length_take]; omega
  | false =>
    have h : ¬ (Nat.succ 70 ≤ s.data.toList.length) := fun q => by rw [Nat.ble_eq_true_of_le q] at hb; cases hb
    have e : s.data.toList.length = s.size := Array.length_toList
    show s.size ≤ 70
    omega
theorem adHolds (m k : Int) (a : Nat) (b : Int) (s : ByteArray) (ha : a < top32) : (acall E3 3000 3 [.agg #[.int .i64 k, .int .u32 (Int.ofNat a), .int .i64 b, .string s]] (VAbs.start m)).map (·.1) = some (.bool true) := by
  have hs := shortS_len s
  have e1 : Nat.ble (Nat.succ a) top32 = true := Nat.ble_eq_true_of_le ha
  have e2 : Nat.ble (shortS s).size capN = true := Nat.ble_eq_true_of_le (Nat.le_trans hs (by decide))
  have hm : IntKind.i64.max = 9223372036854775807 := by decide
  have e3 : decide (((ndB.size + (shortS s).size : Nat) : Int) ≤ IntKind.i64.max) = true := by
    have hn : ndB.size = 5 := rfl
    rw [hm, hn]; exact decide_eq_true (by omega)
  have all : ∀ {o M : List Bool} {L : List (Bool × Bool)}, VAbs.valOf (adRun o k m a b s) = some (Go.Value.bool true) → VAbs.maskAll M (VAbs.condsOf (adRun o k m a b s)) = true → VAbs.pickL M (VAbs.condsOf (adRun o k m a b s)) = L → (∀ p ∈ L, p.1 = p.2) → (acall E3 3000 3 [.agg #[.int .i64 k, .int .u32 (Int.ofNat a), .int .i64 b, .string s]] (VAbs.start m)).map (·.1) = some (.bool true) := by
    intro o M L hv hr hp hL
    refine VAbs.path_ok (sym28 adSym 3000) M hv hr fun p hq => ?_
    have hq' : p ∈ VAbs.pickL M (VAbs.condsOf (adRun o k m a b s)) := hq
    rw [hp] at hq'
    exact hL p hq'
  by_cases k0 : k = 0
  · subst k0
    cases hr : rpB a b with
    | false => exact all (vF0 m a b s) (rF0 m a b s) (pF0 m a b s) (by simp only [hr, e1, e2, e3]; simp)
    | true => exact all (vT0 m a b s) (rT0 m a b s) (pT0 m a b s) (by simp only [hr, e1, e2, e3]; simp)
  by_cases k1 : k = 1
  · subst k1
    cases hr : rpB a b with
    | false => exact all (vF1 m a b s) (rF1 m a b s) (pF1 m a b s) (by simp only [hr, e1, e2, e3]; simp)
    | true => exact all (vT1 m a b s) (rT1 m a b s) (pT1 m a b s) (by simp only [hr, e1, e2, e3]; simp)
  by_cases k2 : k = 2
  · subst k2
    cases hr : rpB a b with
    | false => exact all (vF2 m a b s) (rF2 m a b s) (pF2 m a b s) (by simp only [hr, e1, e2, e3]; simp)
    | true => exact all (vT2 m a b s) (rT2 m a b s) (pT2 m a b s) (by simp only [hr, e1, e2, e3]; simp)
  by_cases k3 : k = 3
  · subst k3
    cases hr : rpB a b with
    | false => exact all (vF3 m a b s) (rF3 m a b s) (pF3 m a b s) (by simp only [hr, e1, e2, e3]; simp)
    | true => exact all (vT3 m a b s) (rT3 m a b s) (pT3 m a b s) (by simp only [hr, e1, e2, e3]; simp)
  by_cases k4 : k = 4
  · subst k4
    cases hr : rightB (shortS s) with
    | false => exact all (vF4 m a b s) (rF4 m a b s) (pF4 m a b s) (by simp only [hr, e1, e2, e3]; simp)
    | true => exact all (vT4 m a b s) (rT4 m a b s) (pT4 m a b s) (by simp only [hr, e1, e2, e3]; simp)
  by_cases k5 : k = 5
  · subst k5
    cases hr : rightB (shortS s) with
    | false => exact all (vF5 m a b s) (rF5 m a b s) (pF5 m a b s) (by simp only [hr, e1, e2, e3]; simp)
    | true => exact all (vT5 m a b s) (rT5 m a b s) (pT5 m a b s) (by simp only [hr, e1, e2, e3]; simp)
  exact all (vNo k m a b s) (rNo k m a b s) (pNo k m a b s) (by simp [k0, k1, k2, k3, k4, k5])
theorem cell_u32 {P : Program} {W : World} {base : Nat} {u : TypeId} {v : Value} (hu : P.underlying u = some (.int .u32)) (h : Cell.okWide P W .any base u v) : ∃ n : Nat, v = .int .u32 (Int.ofNat n) ∧ n < top32 := by
  unfold Cell.okWide at h
  rw [hu] at h
  cases v <;> simp only [Cell.ok, hu] at h <;> first | (exact h.elim) | skip
  obtain ⟨rfl, h1, h2⟩ := h
  rename_i z
  have e1 : IntKind.u32.min = 0 := by decide
  have e2 : IntKind.u32.max = 4294967295 := by decide
  rw [e1] at h1
  rw [e2] at h2
  refine ⟨z.toNat, ?_, ?_⟩
  · have : (Int.ofNat z.toNat : Int) = z := by show ((z.toNat : Nat) : Int) = z; omega
    rw [this]
  · show z.toNat < 4294967296; omega
theorem own : ownKnob Tryz.prog.godebug = none := by kernel_rfl
set_option maxRecDepth 100000 in
theorem lifted (os : Os) (started : os.Started) (H : Type) (enc : TypeId × Value → H) :
    ReturnsInHanded {} Tryz.checked os 3 .any (fun w args => (Rows.adminNilSpec.pre enc Tryz.prog Tryz.f3 Rows.adminNilRow.domain false w args ∧ laidMetH Tryz.prog Rows.adminNilRow.laid w) ∧ sizedMet enc Tryz.prog Tryz.f3 (OpenSpec.ofChange Rows.adminNilSpec) false w args)
      (Rows.adminNilSpec.post enc Tryz.prog Tryz.f3 false true false false) := by
  refine VAbs.handed_shaped (C := Tryz.checked) (X := fun w _ => laidMetH Tryz.prog Rows.adminNilRow.laid w) (fun _ _ _ hh h => h.of_heap hh) own started (by kernel_rfl) Tryz.func3
    (ChangeSpec.witness_shaped (enc := enc) (C := Tryz.checked) (os := os) (X := fun w _ => laidMetH Tryz.prog Rows.adminNilRow.laid w) false (World.laidAll Tryz.prog os Rows.adminNilRow.laid) #[Go.Value.agg #[.int .i64 0, .int .u32 0, .int .i64 0, .string ByteArray.empty]] 8 (World.laidAll_os _ _ _)
      (World.shaped_of_ZipB (by kernel_rfl) (by kernel_rfl)) (by kernel_rfl) (by kernel_rfl) (by kernel_rfl)
      (by rw [MakeChecks.laidMetH_plain _ _ _ (by kernel_rfl)]; exact laidMet_laidAll _ (by kernel_rfl) (by kernel_rfl))) ?_
  intro W base args ds gs before hsh hval0 hW hsz0
  have hsz : (DataW.weightsEach Tryz.prog (Tryz.f3.params.toList ++ Rows.adminNilSpec.plain.varTypes Tryz.prog) (ds ++ gs)).all (· ≤ reachBytes) = true := hsz0
  have hval : ∀ (j : Nat) t v, Tryz.f3.params[j]? = some t → args[j]? = some v → Value.okWide Tryz.prog W .any base t v := hval0
  have hlt := hW.lt
  have hW' := hW
  obtain ⟨p, q, hA0, hV, rfl, hfz, hnd⟩ := hW
  have hA : DataW.TrodAll enc Tryz.prog W 0 (fun _ => true) true Tryz.f3.params.toList args.toList ds p := hA0
  have hAall := hA
  rw [Tryz.params3] at hA hval hsz
  obtain ⟨v0, vs0, d0, ds0, p0, q0, hargs, rfl, rfl, h0, r0⟩ := trodAll_cons hA
  obtain ⟨rfl, rfl, rfl⟩ := trodAll_nil r0
  obtain rfl : args = #[v0] := by cases args; simp_all
  obtain ⟨rfl, rfl⟩ := trodVars_none hV
  have hcalls : Calls Tryz.prog 3 #[v0] W fun e w' => e = .returned (.bool true) ∧ Below W.heap.size W w' := by
    obtain ⟨m, hm⟩ : ∃ m, W.cell? ⟨0, 0, none⟩ = some (.int .i64 m) :=
      cell_of_shapedOpen_int (t := 3) (zero := #[.int .i64 0]) hsh (of_decide_eq_true (by kernel_rfl)) (by kernel_rfl) rfl (by kernel_rfl) (by kernel_rfl) Tryz.underlying3
    obtain ⟨cs, rfl, hsz1, hcell⟩ := VAbs.okWide_struct Tryz.underlying26 (ts := [3, 22, 3, 9]) (by kernel_rfl) (by kernel_rfl) (hval 0 26 v0 rfl rfl)
    obtain ⟨a0, a1, a2, a3, rfl⟩ : ∃ a0 a1 a2 a3, cs = #[a0, a1, a2, a3] := by
      obtain ⟨l⟩ := cs
      match l, hsz1 with
      | [a0, a1, a2, a3], _ => exact ⟨a0, a1, a2, a3, rfl⟩
    obtain ⟨k0, rfl⟩ := VAbs.cell_int Tryz.underlying3 (hcell 0 a0 3 rfl rfl)
    obtain ⟨k1, rfl, hk1⟩ := cell_u32 Tryz.underlying22 (hcell 1 a1 22 rfl rfl)
    obtain ⟨k2, rfl⟩ := VAbs.cell_int Tryz.underlying3 (hcell 2 a2 3 rfl rfl)
    obtain ⟨k3, rfl⟩ := VAbs.cell_string Tryz.underlying9 (hcell 3 a3 9 rfl rfl)
    exact VAbs.law_calls ok3 (gM := 0) rfl rfl (by intro x hx; obtain rfl := List.mem_singleton.1 hx; rfl) hm (VAbs.cells_of_cell hm) (adHolds m k0 k1 k2 k3 hk1)
  refine hcalls.mono fun e W' ⟨he, bel⟩ => ?_
  subst he
  exact ⟨_, rfl, _, _, _, [], _, [], hW', trodAll_mk1 (shut_bool Tryz.underlying4 _), VAbs.trodAll_below (by kernel_rfl) bel (by kernel_rfl) hAall (fun x hx => hlt x (List.mem_append_left _ hx)), rfl, bel.frame _, fun h => by cases h⟩
theorem said : Rows.AdminNilSaid :=
  OpenClaim.holds_of_wide 3 Tryz.f3 rfl rfl rfl rfl rfl rfl rfl ⟨rfl, rfl, rfl, rfl, rfl⟩ rfl rfl rfl rfl rfl (by kernel_rfl) Tryz.func3 (by kernel_rfl)
    (of_decide_eq_true (by kernel_rfl)) (by unfold Func.isWrapper; first | (rw [if_pos (by decide +kernel)]; kernel_rfl) | (rw [if_neg (by decide +kernel)]; exact ⟨rfl, rfl⟩))
    (fun os started H enc _ => lifted os started H enc)
theorem adminNil_holds : Rows.AdminNilCardSaid :=
  Claim7.holds_tied_plain_at .later [] _ _ _ _ said (fun _ h => by cases h) (by kernel_rfl) (fun _ h => by cases h) adminNil_row_tie rfl ⟨rfl, rfl⟩ (by kernel_rfl) rfl
    (fun f fn hf hfn => by
      obtain rfl : f = 3 := Option.some.inj ((show Tryz.prog.funcNamed "virgate/virgatelaw28.AdminNil" = some 3 by kernel_rfl).symm.trans hf) |>.symm
      obtain rfl : fn = Tryz.f3 := (Option.some.inj (Tryz.func3.symm.trans hfn)).symm
      exact ⟨by kernel_rfl, fun j t ht => by
        rw [Tryz.params3] at ht
        have hm : t ∈ [26] := by simpa using Array.mem_of_getElem? ht
        have hall : ([26].all fun u => !Tryz.prog.wantsStandIn u) = true := by kernel_rfl
        exact (show Tryz.prog.wantsStandIn t = false by simpa using List.all_eq_true.1 hall t hm)⟩)
    (by kernel_rfl)
#print axioms adminNil_holds
end Go.Proofs.YtmeaipadifoaeaaGreatDoor
