/- ByhandNil returns true for every text: what is no name is refused at once, and with a procedure that is not there nothing happens. -/
import Derived.Test.YtncndkkoghjajaaGreatDoorTie
import Derived.Test.YtncndkkoghjajaaGreatDoorCards
import Derived.Test.YtncndkkoghjajaaGreatDoorEnv
import Derived.ProofKit
import Derived.OpenShut
import Derived.ShutString
import Derived.ChangeOld
import Derived.LaidMore
import Derived.Lay
import Derived.SevenTiedAt
import Derived.Stop.Joined
import Derived.Shelf.Vars
import Derived.KernelRfl
namespace Go.Proofs.YtncndkkoghjajaaGreatDoor
open Go Go.VAbs Go.RowKit Go.ChangeShapes Go.WideShapes Go.ChangeAt
open Go.ChangeMaps (open_string shut_string)
set_option linter.unusedVariables false
set_option maxRecDepth 1000000
theorem awakeK : ∀ m : Int, kval E0 3000 7 [] (VAbs.start m) = some (.bool true) := by
  intro m
  kernel_rfl
theorem awake (m : Int) : (acall E0 3000 7 [] (VAbs.start m)).map (·.1) = some (.bool true) := kval_ok (awakeK m)
def okN (n : Nat) : Bool := (Nat.ble 97 n && Nat.ble n 122) || (Nat.ble 65 n && Nat.ble n 90) || (Nat.ble 48 n && Nat.ble n 57) || Nat.beq n 46 || Nat.beq n 45 || Nat.beq n 95
noncomputable def mayAt (m : Int) (n : Nat) : Bool := match kval E0 3000 123 [.int .i32 (Int.ofNat n)] (VAbs.start m) with
  | some (.bool b) => cond (okN n) b (!b)
  | _ => false
theorem may_small (m : Int) : upTo (mayAt m) 128 = true := by kernel_rfl
theorem may_large (m : Int) (d : Nat) : kval E0 3000 123 [.int .i32 (Int.ofNat (d + 128))] (VAbs.start m) = some (.bool false) := by kernel_rfl
theorem okN_large (d : Nat) : okN (d + 128) = false := by kernel_rfl
def fMay : List Value → Option Value
  | [.int .i32 (.ofNat n)] => some (.bool (okN n))
  | _ => none
theorem may_run (m : Int) (n : Nat) : (acall E0 3000 123 [.int .i32 (Int.ofNat n)] (VAbs.start m)).map (·.1) = some (.bool (okN n)) := by
  apply kval_ok
  rcases (show n < 128 ∨ ∃ d, n = d + 128 from (Nat.lt_or_ge n 128).imp id fun h => ⟨n - 128, by omega⟩) with h | ⟨d, rfl⟩
  · have := upTo_ok (may_small m) n h
    unfold mayAt at this
    split at this
    · rename_i b hb
      rw [hb]
      congr 2
      cases hk : okN n <;> rw [hk] at this <;> cases b <;> first | rfl | cases this
    · cases this
  · rw [okN_large]; exact may_large m d

noncomputable def prims2 : Nat → Option (List Value → AS → Option (Value × AS))
  | 123 => some (pFun fMay)
  | n => prims0 n
noncomputable def E2 : Env := Env.of Tryz.prog (oneGlob 0) prims2
noncomputable def b112 : Code := (Tryz.f82.body).getD .skip
noncomputable def R0 : Code := cA b112
noncomputable def R1 : Code := cA (cA (cB b112))
noncomputable def LB : Code := cA (cA (cB (cA (cB b112))))
noncomputable def CC : Code := cB (cB b112)
theorem shape112 : Tryz.f82.body = some (.seq R0 (.seq (.seq R1 (.block 0 (.loop LB))) CC)) := by kernel_rfl
theorem fn112 : E2.fn 82 = some Tryz.f82 := by kernel_rfl
theorem r0 (kc : KCall) (k : Nat) (t : KT) (σ : AS) (kn : KT → AS → KR) (kx : Nat → KT → AS → KR) (kr : KT → AS → KR) : (kcode E2 20 R0).run kc k t σ kn kx kr = kn (t.put 2 (.bool false)) σ := by kernel_rfl
theorem r1 (kc : KCall) (k : Nat) (t : KT) (s : ByteArray) (σ : AS) (kn : KT → AS → KR) (kx : Nat → KT → AS → KR) (kr : KT → AS → KR) : (kcode E2 20 R1).run kc k (t.put 0 (.string s)) σ kn kx kr = kn (((t.put 0 (.string s)).put 5 (.string s)).put 6 (.pointer (some ⟨σ.next, 0, none⟩))) (σ.alloc (.iter s 0)) := by kernel_rfl
noncomputable def hs (m : Int) (s : ByteArray) (p : Nat) (ws : List Nat) : AS := { heap := ((VAbs.start m).heap.set 1 (.iter s p)), next := 2, ws := ws }
theorem lb (m : Int) (kk : Nat) (k : Nat) (t : KT) (s : ByteArray) (p : Nat) (ws : List Nat) (kn : KT → AS → KR) (kx : Nat → KT → AS → KR) (kr : KT → AS → KR) :
    (kcode E2 20 LB).run (kcall E2 (kk + 1)) k ((t.put 0 (.string s)).put 6 (.pointer (some ⟨1, 0, none⟩))) (hs m s p ws) kn kx kr = 
    Bool.rec (kx 0 ((((t.put 0 (.string s)).put 6 (.pointer (some ⟨1, 0, none⟩))).put 7 (.tuple #[.bool false])).put 8 (.bool false)) (hs m s p ws))
     (Bool.rec
       (kn (((((((((t.put 0 (.string s)).put 6 (.pointer (some ⟨1, 0, none⟩))).put 7 (.tuple #[.bool true, .int .i64 (Int.ofNat p), .int .i32 (Int.ofNat (Utf8.decode s p).1)])).put 8 (.bool true)).put 9 (.int .i32 (Int.ofNat (Utf8.decode s p).1))).put 4 (.int .i32 (Int.ofNat (Utf8.decode s p).1))).put 10 (.int .i32 (Int.ofNat (Utf8.decode s p).1))).put 11 (.bool (okN (Utf8.decode s p).1))).put 12 (.bool (Bool.rec true false (okN (Utf8.decode s p).1)))) (hs m s (Nat.add p (Utf8.decode s p).2) (1 :: ws)))
       (kr ((((((((((t.put 0 (.string s)).put 6 (.pointer (some ⟨1, 0, none⟩))).put 7 (.tuple #[.bool true, .int .i64 (Int.ofNat p), .int .i32 (Int.ofNat (Utf8.decode s p).1)])).put 8 (.bool true)).put 9 (.int .i32 (Int.ofNat (Utf8.decode s p).1))).put 4 (.int .i32 (Int.ofNat (Utf8.decode s p).1))).put 10 (.int .i32 (Int.ofNat (Utf8.decode s p).1))).put 11 (.bool (okN (Utf8.decode s p).1))).put 12 (.bool (Bool.rec true false (okN (Utf8.decode s p).1)))).put 2 (.bool false)) (hs m s (Nat.add p (Utf8.decode s p).2) (1 :: ws)))
       (Bool.rec true false (okN (Utf8.decode s p).1))) (Nat.ble (Nat.succ p) s.size) := by kernel_rfl

def goodF (s : ByteArray) : Nat → Nat → Bool
  | 0, _ => true
  | n + 1, p => cond (Nat.ble (Nat.succ p) s.size) (cond (okN (Utf8.decode s p).1) (goodF s n (Nat.add p (Utf8.decode s p).2)) false) true
theorem loopR (m : Int) (s : ByteArray) (kk k : Nat) (kx : Nat → KT → AS → KR) (kr : KT → AS → KR) : ∀ (n p : Nat) (t : KT) (ws : List Nat), 1 ≤ n → s.size + 2 ≤ p + n → t.get 0 = .string s → t.get 6 = .pointer (some ⟨1, 0, none⟩) →
    (goodF s n p = true ∧ ∃ t' σ', kloop (kcode E2 20 LB) (kcall E2 (kk + 1)) k kx kr n t (hs m s p ws) = kx 0 t' σ' ∧ t'.get 0 = .string s) ∨
    (goodF s n p = false ∧ ∃ t' σ', kloop (kcode E2 20 LB) (kcall E2 (kk + 1)) k kx kr n t (hs m s p ws) = kr t' σ' ∧ t'.get 2 = .bool false) := by
  intro n
  induction n with
  | zero => 
    intro p t ws hn hp h0 h6; omega
  | succ n ih =>
    intro p t ws hn hp h0 h6
    have hunf : kloop (kcode E2 20 LB) (kcall E2 (kk + 1)) k kx kr (n + 1) t (hs m s p ws) = (kcode E2 20 LB).run (kcall E2 (kk + 1)) k t (hs m s p ws) (kloop (kcode E2 20 LB) (kcall E2 (kk + 1)) k kx kr n) kx kr := rfl
    rw [hunf]
    have hput : (t.put 0 (.string s)).put 6 (.pointer (some ⟨1, 0, none⟩)) = t := by rw [KT.put_eq h0, KT.put_eq h6]
    have hb := lb m kk k t s p ws (kloop (kcode E2 20 LB) (kcall E2 (kk + 1)) k kx kr n) kx kr
    rw [hput] at hb
    rw [hb]
    simp only [goodF]
    cases h1 : Nat.ble (Nat.succ p) s.size with
    | false =>
      refine .inl ⟨rfl, _, _, rfl, ?_⟩
      rw [KT.get_put_ne _ _ (by decide) (by decide) (by decide), KT.get_put_ne _ _ (by decide) (by decide) (by decide)]; exact h0
    | true =>
      cases h2 : okN (Utf8.decode s p).1 with
      | false =>
        refine .inr ⟨rfl, _, _, rfl, ?_⟩
        rw [KT.get_put_eq _ _ (by decide)]
      | true =>
        have hw := VAbs.decode_pos s p
        have h1' := Nat.le_of_ble_eq_true h1
        have hq : s.size + 2 ≤ Nat.add p (Utf8.decode s p).2 + n := by show s.size + 2 ≤ p + (Utf8.decode s p).2 + n; omega
        refine ih _ _ _ (by omega) hq ?_ ?_
        · simp only [KT.get_put, Nat.reduceLT, Nat.reduceEqDiff, if_false]; exact h0
        · simp only [KT.get_put, Nat.reduceLT, Nat.reduceEqDiff, if_false]; exact h6

theorem okN_high {n : Nat} (h : 128 ≤ n) : okN n = false := by
  obtain ⟨d, rfl⟩ : ∃ d, n = d + 128 := ⟨n - 128, by omega⟩
  exact okN_large d
def okFrom (s : ByteArray) : Nat → Nat → Bool
  | 0, _ => true
  | n + 1, p => cond (Nat.ble (Nat.succ p) s.size) (cond (okN (s.get! p).toNat) (okFrom s n (p + 1)) false) true
theorem goodF_eq (s : ByteArray) : ∀ n p, goodF s n p = okFrom s n p
  | 0, _ => rfl
  | n + 1, p => by
    simp only [goodF, okFrom]
    cases Nat.ble (Nat.succ p) s.size with
    | false => rfl
    | true =>
      simp only [cond_true]
      rcases Nat.lt_or_ge (s.get! p).toNat 128 with h | h
      · rw [VAbs.decode_low h]
        cases okN (s.get! p).toNat with
        | false => rfl
        | true => exact goodF_eq s n (p + 1)
      · rw [okN_high h, okN_high (VAbs.decode_high h)]; rfl

theorem cc_nil (kc : KCall) (k : Nat) (t : KT) (σ : AS) (kn : KT → AS → KR) (kx : Nat → KT → AS → KR) (kr : KT → AS → KR) : (kcode E2 20 CC).run kc k (t.put 0 (.string ⟨⟨[]⟩⟩)) σ kn kx kr = kr (((((((((t.put 0 (.string ⟨⟨[]⟩⟩)).put 13 (.string ⟨⟨[]⟩⟩)).put 14 (.bool false)).put 15 (.bool false)).put 16 undef).put 17 undef).put 18 undef).put 19 (.bool false)).put 2 (.bool false)) σ := by kernel_rfl
theorem cc_cons (kc : KCall) (k : Nat) (t : KT) (a : UInt8) (r : List UInt8) (σ : AS) (kn : KT → AS → KR) (kx : Nat → KT → AS → KR) (kr : KT → AS → KR) : (kcode E2 20 CC).run kc k (t.put 0 (.string ⟨⟨a :: r⟩⟩)) σ kn kx kr = kr (((((((((t.put 0 (.string ⟨⟨a :: r⟩⟩)).put 13 (.string ⟨⟨a :: r⟩⟩)).put 14 (.bool true)).put 15 (.bool true)).put 16 (.string ⟨⟨a :: r⟩⟩)).put 17 (.int .i64 (Int.ofNat (r.length + 1)))).put 18 (.bool (Nat.ble (r.length + 1) 64))).put 19 (.bool (Nat.ble (r.length + 1) 64))).put 2 (.bool (Nat.ble (r.length + 1) 64))) σ := by kernel_rfl
theorem res112 (t : KT) (σ : AS) (K : Value → AS → KR) : (kres E2 Tryz.f82.results.toList).run t σ (fun l => K (resValue l) σ) = K (t.get 2) σ := by kernel_rfl
theorem slot112 : kslot E2 82 = kfunc E2 Tryz.f82 := by kernel_rfl
theorem start112 (s : ByteArray) (F : KT → KR) : kstart [.string s] 0 kt0 F = F (kt0.put 0 (.string s)) := by kernel_rfl
def rightB (s : ByteArray) : Bool := okFrom s (s.size + 2) 0 && (Nat.ble 1 s.size && Nat.ble s.size 64)
theorem right_k (m : Int) (s : ByteArray) (K : Value → AS → KR) : ∃ σ', kcall E2 (s.size + 2) 82 [.string s] (VAbs.start m) K = K (.bool (rightB s)) σ' := by
  have h0 : kcall E2 (s.size + 2) 82 [.string s] (VAbs.start m) K = (kslot E2 82).run (kcall E2 (s.size + 1)) (s.size + 2) [.string s] (VAbs.start m) K := rfl
  rw [h0, slot112]
  simp only [kfunc, shape112, start112, kc_seq, kc_block, kc_loop]
  have hnt : Tryz.f82.ntmps = 20 := rfl
  simp only [hnt]
  rw [r0]
  have hcomm : (kt0.put 0 (.string s)).put 2 (.bool false) = (kt0.put 2 (.bool false)).put 0 (.string s) := by kernel_rfl
  rw [hcomm, r1]
  have hσ : (VAbs.start m).alloc (.iter s 0) = hs m s 0 [] := by kernel_rfl
  rw [hσ]
  have hnx : (VAbs.start m).next = 1 := rfl
  rw [hnx]
  have e0 : ((((kt0.put 2 (.bool false)).put 0 (.string s)).put 5 (.string s)).put 6 (.pointer (some ⟨1, 0, none⟩))).get 0 = .string s := by kernel_rfl
  have e6 : ((((kt0.put 2 (.bool false)).put 0 (.string s)).put 5 (.string s)).put 6 (.pointer (some ⟨1, 0, none⟩))).get 6 = .pointer (some ⟨1, 0, none⟩) := by kernel_rfl
  rcases loopR m s s.size (s.size + 2) (fun i t σ => Bool.rec (motive := fun _ => KR) (none) ((kcode E2 20 CC).run (kcall E2 (s.size + 1)) (s.size + 2) t σ (fun t σ' => (kres E2 Tryz.f82.results.toList).run t σ' fun l => K (resValue l) σ') (fun _ _ _ => none) (fun t σ' => (kres E2 Tryz.f82.results.toList).run t σ' fun l => K (resValue l) σ')) (Nat.beq i 0)) (fun t σ' => (kres E2 Tryz.f82.results.toList).run t σ' fun l => K (resValue l) σ') (s.size + 2) 0 _ [] (by omega) (by omega) e0 e6 with ⟨hg, t', σ', h1, h2⟩ | ⟨hg, t', σ', h1, h2⟩
  · rw [h1]
    rw [goodF_eq] at hg
    simp only [rightB, hg, Bool.true_and]
    refine ⟨σ', ?_⟩
    show (kcode E2 20 CC).run (kcall E2 (s.size + 1)) (s.size + 2) t' σ' (fun t σ' => (kres E2 Tryz.f82.results.toList).run t σ' fun l => K (resValue l) σ') (fun _ _ _ => none) (fun t σ' => (kres E2 Tryz.f82.results.toList).run t σ' fun l => K (resValue l) σ') = _
    obtain ⟨⟨l⟩⟩ := s
    cases l with
    | nil =>
      rw [← KT.put_eq h2, cc_nil, res112, KT.get_put_eq _ _ (by decide)]; rfl
    | cons a r =>
      rw [← KT.put_eq h2, cc_cons, res112, KT.get_put_eq _ _ (by decide)]
      have e1 : (ByteArray.mk ⟨a :: r⟩).size = r.length + 1 := rfl
      have e2 : Nat.ble 1 (r.length + 1) = true := Nat.ble_eq_true_of_le (by omega)
      rw [e1, e2, Bool.true_and]
  · rw [h1]
    rw [goodF_eq] at hg
    simp only [rightB, hg, Bool.false_and]
    refine ⟨σ', ?_⟩
    rw [res112, h2]
theorem right_run (m : Int) (s : ByteArray) : ∃ k, (acall E2 k 82 [.string s] (VAbs.start m)).map (·.1) = some (.bool (rightB s)) := by
  refine ⟨s.size + 2, ?_⟩
  obtain ⟨σ', h⟩ := right_k m s (fun v' _ => some (v', (⟨.e, 0, []⟩ : AS)))
  exact kcall_val h

theorem okFrom_all {s : ByteArray} : ∀ {n p : Nat}, okFrom s n p = true → s.size < p + n → ∀ i, p ≤ i → i < s.size → okN (s.get! i).toNat = true
  | 0, p, _, h, i, h1, h2 => by omega
  | n + 1, p, h, hn, i, h1, h2 => by
    simp only [okFrom] at h
    cases hb : Nat.ble (Nat.succ p) s.size with
    | false => exact absurd (Nat.ble_eq_true_of_le (show Nat.succ p ≤ s.size by omega)) (by rw [hb]; simp)
    | true =>
      rw [hb] at h
      cases ho : okN (s.get! p).toNat with
      | false => rw [ho] at h; cases h
      | true =>
        rw [ho] at h
        rcases (by omega : i = p ∨ p + 1 ≤ i) with rfl | q
        · exact ho
        · exact okFrom_all (n := n) (p := p + 1) h (by omega) i q h2
theorem right_space (s : ByteArray) : rightB (s ++ ⟨#[32]⟩) = false := by
  have hsz : (s ++ ⟨#[32]⟩ : ByteArray).size = s.size + 1 := by rw [ByteArray.size_append]; rfl
  cases h : okFrom (s ++ ⟨#[32]⟩) ((s ++ ⟨#[32]⟩ : ByteArray).size + 2) 0 with
  | false => simp only [rightB, h, Bool.false_and]
  | true =>
    have := okFrom_all h (by omega) s.size (by omega) (by omega)
    have hg : (s ++ ⟨#[32]⟩ : ByteArray).get! s.size = 32 := by
      have e : (s ++ ⟨#[32]⟩ : ByteArray) = ⟨⟨s.data.toList ++ [32]⟩⟩ := by
        have := ByteArray.toList_data_append (l := s) (l' := ⟨#[32]⟩)
        generalize (s ++ ⟨#[32]⟩ : ByteArray) = c at this
        cases c with | mk d => cases d with | mk l => simp at this; rw [this]
      rw [e]
      show (Array.mk (s.data.toList ++ [32]))[s.size]! = 32
      have h1 : s.size = s.data.toList.length := Array.length_toList.symm
      rw [h1]
      generalize s.data.toList = l
      have hlt : l.length < (Array.mk (l ++ [(32 : UInt8)])).size := by show l.length < (l ++ [(32 : UInt8)]).length; rw [List.length_append]; exact Nat.lt_succ_self _
      rw [getElem!_pos (Array.mk (l ++ [(32 : UInt8)])) l.length hlt]
      show (l ++ [(32 : UInt8)])[l.length]'(by rw [List.length_append]; exact Nat.lt_succ_self _) = 32
      rw [List.getElem_append_right (Nat.le_refl _)]
      simp
    rw [hg] at this
    exact absurd this (by decide)
def fRight : List Value → Option Value
  | [.string s] => some (.bool (rightB s))
  | _ => none
noncomputable def prims3 : Nat → Option (List Value → AS → Option (Value × AS))
  | 82 => some (pFun fRight)
  | 7 => some (pClosed (.bool true))
  | n => prims0 n
noncomputable def E3 : Env := Env.of Tryz.prog (oneGlob 0) prims3
def bnSym : Nat → Bool
  | 3 | 4 | 6 | 12 | 27 | 44 | 8 | 25 => true
  | _ => false
def bnOrc : List Bool := [true, true, true, true, true, true, false, false, true, true, true, true, true, true, true, true, true, true, true, true, true, true, true, true, true, true, true, true, true, true, true, true, true, true]
def bnMask : List Bool := [false, false, false, false, false, false, false, false, false, false, false, false, false, false, false, false, false, false, false, false, false, false, false, false, false, false, false, false, false, false, false, true, true, false, false, true, true]
noncomputable def bnRun (m : Int) (s : ByteArray) : Option (Go.Value × AS × OSt) := acallO E3 bnSym noPO 3000 3 [.string s] (VAbs.start m) ⟨bnOrc, []⟩
theorem bnV (m : Int) (s : ByteArray) : VAbs.valOf (bnRun m s) = some (Go.Value.bool true) := by kernel_rfl
theorem bnR (m : Int) (s : ByteArray) : VAbs.maskAll bnMask (VAbs.condsOf (bnRun m s)) = true := by kernel_rfl
theorem bnP (m : Int) (s : ByteArray) : VAbs.pickL bnMask (VAbs.condsOf (bnRun m s)) = [(!(rightB (s ++ ⟨#[32]⟩)), true), (decide (((s.size + 1 : Nat) : Int) ≤ IntKind.i64.max), true), (!(rightB (s ++ ⟨#[32]⟩)), true), (decide (((s.size + 1 : Nat) : Int) ≤ IntKind.i64.max), true)] := by kernel_rfl
theorem bnHolds (m : Int) (s : ByteArray) (hs : s.size ≤ 140737488355328) : (acall E3 3000 3 [.string s] (VAbs.start m)).map (·.1) = some (.bool true) := by
  refine VAbs.path_ok (VAbs.symCall_ok E3 bnSym 3000) bnMask (bnV m s) (bnR m s) fun p hp => ?_
  have hp' : p ∈ VAbs.pickL bnMask (VAbs.condsOf (bnRun m s)) := hp
  rw [bnP, right_space] at hp'
  have hm : IntKind.i64.max = 9223372036854775807 := by decide
  rw [hm] at hp'
  simp only [List.mem_cons, List.not_mem_nil, or_false] at hp'
  rcases hp' with rfl | rfl | rfl | rfl <;> simp <;> omega

theorem may_ok (prims : Nat → Option (List Value → AS → Option (Value × AS))) : PrimOk (Env.of Tryz.prog (oneGlob 0) prims) 123 (pFun fMay) := fun_ok ok0 rfl (by
  intro args v hcl h
  unfold fMay at h
  split at h
  · cases h; exact ⟨rfl, fun m => ⟨3000, may_run m _⟩⟩
  · cases h) rfl rfl
theorem ok2 : ProgOk E2 := by
  refine progOk_of mixed allOk ?_
  intro n g h
  unfold prims2 at h
  split at h
  · cases h; exact ⟨may_ok prims2, _, Tryz.func123, by kernel_rfl⟩
  · exact prims0_ok prims2 n g h
theorem right_ok (prims : Nat → Option (List Value → AS → Option (Value × AS))) : PrimOk (Env.of Tryz.prog (oneGlob 0) prims) 82 (pFun fRight) := fun_ok ok2 rfl (by
  intro args v hcl h
  unfold fRight at h
  split at h
  · cases h; exact ⟨rfl, fun m => right_run m _⟩
  · cases h) rfl rfl
theorem ok3 : ProgOk E3 := by
  refine progOk_of mixed allOk ?_
  intro n g h
  unfold prims3 at h
  split at h
  · cases h; exact ⟨right_ok prims3, _, Tryz.func82, by kernel_rfl⟩
  · cases h; exact ⟨closed_ok ok0 rfl rfl awake rfl rfl, _, Tryz.func7, by kernel_rfl⟩
  · exact prims0_ok prims3 n g h

theorem own : ownKnob Tryz.prog.godebug = none := by kernel_rfl
set_option maxRecDepth 100000 in
theorem lifted (os : Os) (started : os.Started) (H : Type) (enc : TypeId × Value → H) :
    ReturnsInHanded {} Tryz.checked os 3 .any (fun w args => (Rows.byhandNilSpec.pre enc Tryz.prog Tryz.f3 Rows.byhandNilRow.domain false w args ∧ laidMetH Tryz.prog Rows.byhandNilRow.laid w) ∧ sizedMet enc Tryz.prog Tryz.f3 (OpenSpec.ofChange Rows.byhandNilSpec) false w args)
      (Rows.byhandNilSpec.post enc Tryz.prog Tryz.f3 false true false false) := by
  refine VAbs.handed_shaped (C := Tryz.checked) (X := fun w _ => laidMetH Tryz.prog Rows.byhandNilRow.laid w) (fun _ _ _ hh h => h.of_heap hh) own started (by kernel_rfl) Tryz.func3
    (ChangeSpec.witness_shaped (enc := enc) (C := Tryz.checked) (os := os) (X := fun w _ => laidMetH Tryz.prog Rows.byhandNilRow.laid w) false (World.laidAll Tryz.prog os Rows.byhandNilRow.laid) #[Go.Value.string ByteArray.empty] 8 (World.laidAll_os _ _ _)
      (World.shaped_of_ZipB (by kernel_rfl) (by kernel_rfl)) (by kernel_rfl) (by kernel_rfl) (by kernel_rfl)
      (by rw [MakeChecks.laidMetH_plain _ _ _ (by kernel_rfl)]; exact laidMet_laidAll _ (by kernel_rfl) (by kernel_rfl))) ?_
  intro W base args ds gs before hsh hval0 hW hsz0
  have hsz : (DataW.weightsEach Tryz.prog (Tryz.f3.params.toList ++ Rows.byhandNilSpec.plain.varTypes Tryz.prog) (ds ++ gs)).all (· ≤ reachBytes) = true := hsz0
  have hval : ∀ (j : Nat) t v, Tryz.f3.params[j]? = some t → args[j]? = some v → Value.okWide Tryz.prog W .any base t v := hval0
  have hlt := hW.lt
  have hW' := hW
  obtain ⟨p, q, hA0, hV, rfl, hfz, hnd⟩ := hW
  have hA : DataW.TrodAll enc Tryz.prog W 0 (fun _ => true) true Tryz.f3.params.toList args.toList ds p := hA0
  have hAall := hA
  rw [Tryz.params3] at hA hval hsz
  obtain ⟨v0, vs0, d0, ds0, p0, q0, hargs, rfl, rfl, h0, r0⟩ := trodAll_cons hA
  obtain ⟨rfl, rfl, rfl⟩ := trodAll_nil r0
  obtain rfl : args = #[v0] := by cases args; simp_all
  obtain ⟨rfl, rfl⟩ := trodVars_none hV
  have hcalls : Calls Tryz.prog 3 #[v0] W fun e w' => e = .returned (.bool true) ∧ Below W.heap.size W w' := by
    obtain ⟨m, hm⟩ : ∃ m, W.cell? ⟨0, 0, none⟩ = some (.int .i64 m) :=
      cell_of_shapedOpen_int (t := 3) (zero := #[.int .i64 0]) hsh (of_decide_eq_true (by kernel_rfl)) (by kernel_rfl) rfl (by kernel_rfl) (by kernel_rfl) Tryz.underlying3
    obtain ⟨a0, rfl, rfl, rfl, y0⟩ := open_string Tryz.underlying9 (hval 0 9 v0 rfl rfl) h0
    have w0 : a0.size ≤ 140737488355328 := by
      have z := sized_string hsz (j := 0) (t := 9) rfl rfl
      rw [Array.length_toList] at z
      have := reachBytes_lt
      have h47 : (2 : Nat) ^ 47 = 140737488355328 := by decide
      show a0.data.size ≤ _
      omega
    exact VAbs.law_calls ok3 (gM := 0) rfl rfl (by intro x hx; obtain rfl := List.mem_singleton.1 hx; rfl) hm (VAbs.cells_of_cell hm) (bnHolds m a0 w0)
  refine hcalls.mono fun e W' ⟨he, bel⟩ => ?_
  subst he
  exact ⟨_, rfl, _, _, _, [], _, [], hW', trodAll_mk1 (shut_bool Tryz.underlying4 _), VAbs.trodAll_below (by kernel_rfl) bel (by kernel_rfl) hAall (fun x hx => hlt x (List.mem_append_left _ hx)), rfl, bel.frame _, fun h => by cases h⟩
theorem said : Rows.ByhandNilSaid :=
  OpenClaim.holds_of_wide 3 Tryz.f3 rfl rfl rfl rfl rfl rfl rfl ⟨rfl, rfl, rfl, rfl, rfl⟩ rfl rfl rfl rfl rfl (by kernel_rfl) Tryz.func3 (by kernel_rfl)
    (of_decide_eq_true (by kernel_rfl)) (by unfold Func.isWrapper; first | (rw [if_pos (by decide +kernel)]; kernel_rfl) | (rw [if_neg (by decide +kernel)]; exact ⟨rfl, rfl⟩))
    (fun os started H enc _ => lifted os started H enc)
theorem byhandNil_holds : Rows.ByhandNilCardSaid :=
  Claim7.holds_tied_plain_at .later [] _ _ _ _ said (fun _ h => by cases h) (by kernel_rfl) (fun _ h => by cases h) byhandNil_row_tie rfl ⟨rfl, rfl⟩ (by kernel_rfl) rfl
    (fun f fn hf hfn => by
      obtain rfl : f = 3 := Option.some.inj ((show Tryz.prog.funcNamed "virgate/virgatelaw27.ByhandNil" = some 3 by kernel_rfl).symm.trans hf) |>.symm
      obtain rfl : fn = Tryz.f3 := (Option.some.inj (Tryz.func3.symm.trans hfn)).symm
      exact ⟨by kernel_rfl, fun j t ht => by
        rw [Tryz.params3] at ht
        have hm : t ∈ [9] := by simpa using Array.mem_of_getElem? ht
        have hall : ([9].all fun u => !Tryz.prog.wantsStandIn u) = true := by kernel_rfl
        exact (show Tryz.prog.wantsStandIn t = false by simpa using List.all_eq_true.1 hall t hm)⟩)
    (by kernel_rfl)
#print axioms byhandNil_holds
end Go.Proofs.YtncndkkoghjajaaGreatDoor
