/- DropNil returns true for every number: with a procedure that is not there nothing happens, and a bound is as the chapter says. -/
import Derived.Test.YtnbmecmlaafmaaaGreatDoorTie
import Derived.Test.YtnbmecmlaafmaaaGreatDoorCards
import Derived.Test.YtnbmecmlaafmaaaGreatDoorEnv
import Derived.ProofKit
import Derived.OpenShut
import Derived.ShutString
import Derived.ChangeOld
import Derived.LaidMore
import Derived.Lay
import Derived.SevenTiedAt
import Derived.Stop.Joined
import Derived.Shelf.Vars
import Derived.KernelRfl
namespace Go.Proofs.YtnbmecmlaafmaaaGreatDoor
open Go Go.VAbs Go.RowKit Go.ChangeShapes Go.WideShapes Go.ChangeAt
open Go.ChangeMaps (open_string shut_string)
set_option linter.unusedVariables false
set_option maxRecDepth 1000000
theorem awakeK : ∀ m : Int, kval E0 3000 7 [] (VAbs.start m) = some (.bool true) := by
  intro m
  kernel_rfl
theorem awake (m : Int) : (acall E0 3000 7 [] (VAbs.start m)).map (·.1) = some (.bool true) := kval_ok (awakeK m)
noncomputable def prims1 : Nat → Option (List Value → AS → Option (Value × AS))
  | 7 => some (pClosed (.bool true))
  | n => prims0 n
noncomputable def E1 : Env := Env.of Tryz.prog (oneGlob 0) prims1
theorem ok1 : ProgOk E1 := by
  refine progOk_of mixed allOk ?_
  intro n g h
  unfold prims1 at h
  split at h
  · cases h; exact ⟨closed_ok ok0 rfl rfl awake rfl rfl, _, Tryz.func7, by kernel_rfl⟩
  · exact prims0_ok prims1 n g h
def dnSym : Nat → Bool
  | 3 | 4 | 5 | 6 => true
  | _ => false
noncomputable def dnRun (o : List Bool) (m n : Int) : Option (Go.Value × AS × OSt) := acallO E1 dnSym noPO 3000 3 [.int .i64 n] (VAbs.start m) ⟨o, []⟩
def o1 : List Bool := [true, false, true, true, true, true, true, true, true, true, true]
def o2 : List Bool := [false, false, true, true, true, true, true, true, true, true, true]
def o3 : List Bool := [false, true, true, true, true, true, true, true, true, true, true]
def m1 : List Bool := [true, true, false, false, false, false, false, false, false, false, true]
def m2 : List Bool := [true, true, false, false, false, false, false, false, false, true, true]
def bnd (n : Int) : Int := if (64 : Int) < (if (0 : Int) > n then 0 else n) then 64 else (if (0 : Int) > n then 0 else n)
def dnC (n k : Int) : Bool := IntKind.i64.wrap (13 + IntKind.i64.wrap (bnd n * 12)) == IntKind.i64.wrap (13 + IntKind.i64.wrap (12 * k))
theorem v1 (m n : Int) : VAbs.valOf (dnRun o1 m n) = some (Go.Value.bool true) := by kernel_rfl
theorem v2 (m n : Int) : VAbs.valOf (dnRun o2 m n) = some (Go.Value.bool true) := by kernel_rfl
theorem v3 (m n : Int) : VAbs.valOf (dnRun o3 m n) = some (Go.Value.bool true) := by kernel_rfl
theorem r1 (m n : Int) : VAbs.maskAll m1 (VAbs.condsOf (dnRun o1 m n)) = true := by kernel_rfl
theorem r2 (m n : Int) : VAbs.maskAll m2 (VAbs.condsOf (dnRun o2 m n)) = true := by kernel_rfl
theorem r3 (m n : Int) : VAbs.maskAll m2 (VAbs.condsOf (dnRun o3 m n)) = true := by kernel_rfl
theorem p1 (m n : Int) : VAbs.pickL m1 (VAbs.condsOf (dnRun o1 m n)) = [(dnC n 0, true), (dnC n 0, true), (decide (n < 0), true)] := by kernel_rfl
theorem p2 (m n : Int) : VAbs.pickL m2 (VAbs.condsOf (dnRun o2 m n)) = [(dnC n n, true), (dnC n n, true), (decide (64 < n), false), (decide (n < 0), false)] := by kernel_rfl
theorem p3 (m n : Int) : VAbs.pickL m2 (VAbs.condsOf (dnRun o3 m n)) = [(dnC n 64, true), (dnC n 64, true), (decide (64 < n), true), (decide (n < 0), false)] := by kernel_rfl
theorem dnHolds (m n : Int) : (acall E1 3000 3 [.int .i64 n] (VAbs.start m)).map (·.1) = some (.bool true) := by
  have w1 : IntKind.i64.wrap (13 + IntKind.i64.wrap (0 * 12)) = IntKind.i64.wrap (13 + IntKind.i64.wrap (12 * 0)) := by rfl
  have w2 : IntKind.i64.wrap (13 + IntKind.i64.wrap (64 * 12)) = IntKind.i64.wrap (13 + IntKind.i64.wrap (12 * 64)) := by rfl
  rcases (by omega : n < 0 ∨ 0 ≤ n) with h | h
  · refine VAbs.path_ok (VAbs.symCall_ok E1 dnSym 3000) m1 (v1 m n) (r1 m n) fun p hp => ?_
    have hp' : p ∈ VAbs.pickL m1 (VAbs.condsOf (dnRun o1 m n)) := hp
    rw [p1] at hp'
    have hc : dnC n 0 = true := by
      have : bnd n = 0 := by unfold bnd; rw [if_pos h]; rfl
      unfold dnC; rw [this, w1, beq_self_eq_true]
    simp only [List.mem_cons, List.not_mem_nil, or_false] at hp'
    rcases hp' with rfl | rfl | rfl <;> simp [hc, h]
  · have hn : ¬ (0 : Int) > n := by omega
    rcases (by omega : 64 < n ∨ n ≤ 64) with h2 | h2
    · refine VAbs.path_ok (VAbs.symCall_ok E1 dnSym 3000) m2 (v3 m n) (r3 m n) fun p hp => ?_
      have hp' : p ∈ VAbs.pickL m2 (VAbs.condsOf (dnRun o3 m n)) := hp
      rw [p3] at hp'
      have hc : dnC n 64 = true := by
        have : bnd n = 64 := by unfold bnd; rw [if_neg hn, if_pos h2]
        unfold dnC; rw [this, w2, beq_self_eq_true]
      simp only [List.mem_cons, List.not_mem_nil, or_false] at hp'
      rcases hp' with rfl | rfl | rfl | rfl <;> simp [hc, h, h2] <;> omega
    · refine VAbs.path_ok (VAbs.symCall_ok E1 dnSym 3000) m2 (v2 m n) (r2 m n) fun p hp => ?_
      have hp' : p ∈ VAbs.pickL m2 (VAbs.condsOf (dnRun o2 m n)) := hp
      rw [p2] at hp'
      have hc : dnC n n = true := by
        have : bnd n = n := by unfold bnd; rw [if_neg hn, if_neg (by omega)]
        unfold dnC; rw [this, Int.mul_comm, beq_self_eq_true]
      simp only [List.mem_cons, List.not_mem_nil, or_false] at hp'
      rcases hp' with rfl | rfl | rfl | rfl <;> simp [hc, h, h2] <;> omega

theorem own : ownKnob Tryz.prog.godebug = none := by kernel_rfl
set_option maxRecDepth 100000 in
theorem lifted (os : Os) (started : os.Started) (H : Type) (enc : TypeId × Value → H) :
    ReturnsInHanded {} Tryz.checked os 3 .any (fun w args => (Rows.dropNilSpec.pre enc Tryz.prog Tryz.f3 Rows.dropNilRow.domain false w args ∧ laidMetH Tryz.prog Rows.dropNilRow.laid w) ∧ sizedMet enc Tryz.prog Tryz.f3 (OpenSpec.ofChange Rows.dropNilSpec) false w args)
      (Rows.dropNilSpec.post enc Tryz.prog Tryz.f3 false true false false) := by
  refine VAbs.handed_shaped (C := Tryz.checked) (X := fun w _ => laidMetH Tryz.prog Rows.dropNilRow.laid w) (fun _ _ _ hh h => h.of_heap hh) own started (by kernel_rfl) Tryz.func3
    (ChangeSpec.witness_shaped (enc := enc) (C := Tryz.checked) (os := os) (X := fun w _ => laidMetH Tryz.prog Rows.dropNilRow.laid w) false (World.laidAll Tryz.prog os Rows.dropNilRow.laid) #[Go.Value.int .i64 0] 8 (World.laidAll_os _ _ _)
      (World.shaped_of_ZipB (by kernel_rfl) (by kernel_rfl)) (by kernel_rfl) (by kernel_rfl) (by kernel_rfl)
      (by rw [MakeChecks.laidMetH_plain _ _ _ (by kernel_rfl)]; exact laidMet_laidAll _ (by kernel_rfl) (by kernel_rfl))) ?_
  intro W base args ds gs before hsh hval0 hW hsz0
  have hsz : (DataW.weightsEach Tryz.prog (Tryz.f3.params.toList ++ Rows.dropNilSpec.plain.varTypes Tryz.prog) (ds ++ gs)).all (· ≤ reachBytes) = true := hsz0
  have hval : ∀ (j : Nat) t v, Tryz.f3.params[j]? = some t → args[j]? = some v → Value.okWide Tryz.prog W .any base t v := hval0
  have hlt := hW.lt
  have hW' := hW
  obtain ⟨p, q, hA0, hV, rfl, hfz, hnd⟩ := hW
  have hA : DataW.TrodAll enc Tryz.prog W 0 (fun _ => true) true Tryz.f3.params.toList args.toList ds p := hA0
  have hAall := hA
  rw [Tryz.params3] at hA hval hsz
  obtain ⟨v0, vs0, d0, ds0, p0, q0, hargs, rfl, rfl, h0, r0⟩ := trodAll_cons hA
  obtain ⟨rfl, rfl, rfl⟩ := trodAll_nil r0
  obtain rfl : args = #[v0] := by cases args; simp_all
  obtain ⟨rfl, rfl⟩ := trodVars_none hV
  have hcalls : Calls Tryz.prog 3 #[v0] W fun e w' => e = .returned (.bool true) ∧ Below W.heap.size W w' := by
    obtain ⟨m, hm⟩ : ∃ m, W.cell? ⟨0, 0, none⟩ = some (.int .i64 m) :=
      cell_of_shapedOpen_int (t := 3) (zero := #[.int .i64 0]) hsh (of_decide_eq_true (by kernel_rfl)) (by kernel_rfl) rfl (by kernel_rfl) (by kernel_rfl) Tryz.underlying3
    obtain ⟨n, rfl, rfl, rfl, y0⟩ := open_int Tryz.underlying3 (hval 0 3 v0 rfl rfl) h0
    exact VAbs.law_calls ok1 (gM := 0) rfl rfl (by intro x hx; obtain rfl := List.mem_singleton.1 hx; rfl) hm (VAbs.cells_of_cell hm) (dnHolds m n)
  refine hcalls.mono fun e W' ⟨he, bel⟩ => ?_
  subst he
  exact ⟨_, rfl, _, _, _, [], _, [], hW', trodAll_mk1 (shut_bool Tryz.underlying4 _), VAbs.trodAll_below (by kernel_rfl) bel (by kernel_rfl) hAall (fun x hx => hlt x (List.mem_append_left _ hx)), rfl, bel.frame _, fun h => by cases h⟩
theorem said : Rows.DropNilSaid :=
  OpenClaim.holds_of_wide 3 Tryz.f3 rfl rfl rfl rfl rfl rfl rfl ⟨rfl, rfl, rfl, rfl, rfl⟩ rfl rfl rfl rfl rfl (by kernel_rfl) Tryz.func3 (by kernel_rfl)
    (of_decide_eq_true (by kernel_rfl)) (by unfold Func.isWrapper; first | (rw [if_pos (by decide +kernel)]; kernel_rfl) | (rw [if_neg (by decide +kernel)]; exact ⟨rfl, rfl⟩))
    (fun os started H enc _ => lifted os started H enc)
theorem dropNil_holds : Rows.DropNilCardSaid :=
  Claim7.holds_tied_plain_at .later [] _ _ _ _ said (fun _ h => by cases h) (by kernel_rfl) (fun _ h => by cases h) dropNil_row_tie rfl ⟨rfl, rfl⟩ (by kernel_rfl) rfl
    (fun f fn hf hfn => by
      obtain rfl : f = 3 := Option.some.inj ((show Tryz.prog.funcNamed "virgate/virgatelaw23.DropNil" = some 3 by kernel_rfl).symm.trans hf) |>.symm
      obtain rfl : fn = Tryz.f3 := (Option.some.inj (Tryz.func3.symm.trans hfn)).symm
      exact ⟨by kernel_rfl, fun j t ht => by
        rw [Tryz.params3] at ht
        have hm : t ∈ [3] := by simpa using Array.mem_of_getElem? ht
        have hall : ([3].all fun u => !Tryz.prog.wantsStandIn u) = true := by kernel_rfl
        exact (show Tryz.prog.wantsStandIn t = false by simpa using List.all_eq_true.1 hall t hm)⟩)
    (by kernel_rfl)
#print axioms dropNil_holds
end Go.Proofs.YtnbmecmlaafmaaaGreatDoor
