/- With a name that is none a node's leaving is refused at once, and without a procedure or a continuation nothing happens: LeaveNil returns true for every text. -/
import Derived.Test.YthhnjbiiaaicmaaGreatDoorTie
import Derived.Test.YthhnjbiiaaicmaaGreatDoorCards
import Derived.Test.YthhnjbiiaaicmaaGreatDoorLeaveNilPath
import Derived.ProofKit
import Derived.OpenShut
import Derived.ShutString
import Derived.ChangeOld
import Derived.LaidMore
import Derived.Lay
import Derived.SevenTiedAt
import Derived.Stop.Joined
import Derived.Shelf.Vars
namespace Go.Proofs.YthhnjbiiaaicmaaGreatDoor
open Go.ChangeShapes Go.WideShapes Go.ChangeAt Go.RowKit
open Go.ChangeMaps (open_string shut_string)
set_option linter.unusedVariables false

def nilMask : List Bool := List.replicate 126 false ++ [true]
set_option maxRecDepth 1000000 in
theorem nilRest (m : Int) (s : ByteArray) : VAbs.maskAll nilMask (VAbs.condsOf (nilRun m s)) = true := by kernel_rfl
set_option maxRecDepth 1000000 in
theorem nilOpen (m : Int) (s : ByteArray) : VAbs.pickL nilMask (VAbs.condsOf (nilRun m s)) = [(decide (((3 + s.size : Nat) : Int) ≤ IntKind.i64.max), true)] := by kernel_rfl
theorem nilCalls (s : ByteArray) (hs : s.size ≤ 140737488355328) (w : World) (hsh : w.ShapedOpen Tryz.prog) : Calls Tryz.prog 4 #[Go.Value.string s] w fun e w' => e = .returned (.bool true) ∧ Below w.heap.size w w' := by
  obtain ⟨m, hm⟩ : ∃ m, w.cell? ⟨0, 0, none⟩ = some (.int .i64 m) :=
    cell_of_shapedOpen_int (t := 3) (zero := #[.int .i64 0]) hsh (of_decide_eq_true (by kernel_rfl)) (by kernel_rfl) rfl (by kernel_rfl) (by kernel_rfl) Tryz.underlying3
  have hrun : (VAbs.acall E1 3000 4 [Go.Value.string s] (VAbs.start m)).map (·.1) = some (.bool true) := by
    refine VAbs.path_ok (VAbs.symCall_ok E1 nilSym 3000) nilMask (nilVal m s) (nilRest m s) ?_
    intro p hp
    have hp' : p ∈ VAbs.pickL nilMask (VAbs.condsOf (nilRun m s)) := hp
    rw [nilOpen] at hp'
    obtain rfl := List.mem_singleton.1 hp'
    have : IntKind.i64.max = 9223372036854775807 := by decide
    simp only [this]
    exact decide_eq_true (by omega)
  exact VAbs.law_calls ok1 (gM := 0) rfl rfl (by intro x hx; obtain rfl := List.mem_singleton.1 hx; rfl) hm (VAbs.cells_of_cell hm) hrun

theorem own : ownKnob Tryz.prog.godebug = none := by kernel_rfl
set_option maxRecDepth 100000 in
theorem nilLifted (os : Os) (started : os.Started) (H : Type) (enc : TypeId × Value → H) :
    ReturnsInHanded {} Tryz.checked os 4 .any (fun w args => (Rows.leaveNilSpec.pre enc Tryz.prog Tryz.f4 Rows.leaveNilRow.domain false w args ∧ laidMetH Tryz.prog Rows.leaveNilRow.laid w) ∧ sizedMet enc Tryz.prog Tryz.f4 (OpenSpec.ofChange Rows.leaveNilSpec) false w args)
      (Rows.leaveNilSpec.post enc Tryz.prog Tryz.f4 false true false false) := by
  refine VAbs.handed_shaped (C := Tryz.checked) (X := fun w _ => laidMetH Tryz.prog Rows.leaveNilRow.laid w) (fun _ _ _ hh h => h.of_heap hh) own started (by kernel_rfl) Tryz.func4
    (ChangeSpec.witness_shaped (enc := enc) (C := Tryz.checked) (os := os) (X := fun w _ => laidMetH Tryz.prog Rows.leaveNilRow.laid w) false (World.laidAll Tryz.prog os Rows.leaveNilRow.laid) #[.string ByteArray.empty] 8 (World.laidAll_os _ _ _)
      (World.shaped_of_ZipB (by kernel_rfl) (by kernel_rfl)) (by kernel_rfl) (by kernel_rfl) (by kernel_rfl)
      (by rw [MakeChecks.laidMetH_plain _ _ _ (by kernel_rfl)]; exact laidMet_laidAll _ (by kernel_rfl) (by kernel_rfl))) ?_
  intro W base args ds gs before hsh hval0 hW hsz0
  have hsz : (DataW.weightsEach Tryz.prog (Tryz.f4.params.toList ++ Rows.leaveNilSpec.plain.varTypes Tryz.prog) (ds ++ gs)).all (· ≤ reachBytes) = true := hsz0
  have hval : ∀ (j : Nat) t v, Tryz.f4.params[j]? = some t → args[j]? = some v → Value.okWide Tryz.prog W .any base t v := hval0
  have hW' := hW
  obtain ⟨p, q, hA0, hV, rfl, hfz, hnd⟩ := hW
  have hA : DataW.TrodAll enc Tryz.prog W 0 (fun _ => true) true Tryz.f4.params.toList args.toList ds p := hA0
  rw [Tryz.params4] at hA hval hsz
  obtain ⟨v0, vs0, d0, ds0, p0, q0, hargs, rfl, rfl, h0, r0⟩ := trodAll_cons hA
  obtain ⟨rfl, rfl, rfl⟩ := trodAll_nil r0
  obtain rfl : args = #[v0] := by cases args; simp_all
  obtain ⟨rfl, rfl⟩ := trodVars_none hV
  obtain ⟨a0, rfl, rfl, rfl, y0⟩ := open_string Tryz.underlying9 (hval 0 9 v0 rfl rfl) h0
  have w0 : a0.size ≤ 140737488355328 := by
    have z := sized_string hsz (j := 0) (t := 9) rfl rfl
    rw [Array.length_toList] at z
    have := reachBytes_lt
    have h47 : (2 : Nat) ^ 47 = 140737488355328 := by decide
    show a0.data.size ≤ _
    omega
  clear hA0 hval0 hsz0 hsz
  refine (nilCalls a0 w0 W hsh).mono fun e W' ⟨he, bel⟩ => ?_
  subst he
  exact ⟨_, rfl, _, _, _, [], _, [], hW', trodAll_mk1 (shut_bool Tryz.underlying4 _), trodAll_cons_mk (shut_string Tryz.underlying9 y0) trodAll_mk0, rfl, bel.frame _, fun h => by cases h⟩
theorem nilHolds : Rows.LeaveNilSaid :=
  OpenClaim.holds_of_wide 4 Tryz.f4 rfl rfl rfl rfl rfl rfl rfl ⟨rfl, rfl, rfl, rfl, rfl⟩ rfl rfl rfl rfl rfl (by kernel_rfl) Tryz.func4 (by kernel_rfl)
    (of_decide_eq_true (by kernel_rfl)) (by unfold Func.isWrapper; first | (rw [if_pos (by decide +kernel)]; kernel_rfl) | (rw [if_neg (by decide +kernel)]; exact ⟨rfl, rfl⟩))
    (fun os started H enc _ => nilLifted os started H enc)
theorem leaveNil_holds : Rows.LeaveNilCardSaid :=
  Claim7.holds_tied_plain_at .later [] [.data, .pinned] true (true, "bbd76a6121f8b2c1636f237420b9ef63c8277ba72ac558932e55d11334384283") false nilHolds (fun _ h => by cases h) (by kernel_rfl) (fun _ h => by cases h) leaveNil_row_tie rfl ⟨rfl, rfl⟩ (by kernel_rfl) rfl
    (fun f fn hf hfn => by
      obtain rfl : f = 4 := Option.some.inj ((show Tryz.prog.funcNamed "virgate/virgatelaw20.LeaveNil" = some 4 by kernel_rfl).symm.trans hf) |>.symm
      obtain rfl : fn = Tryz.f4 := (Option.some.inj (Tryz.func4.symm.trans hfn)).symm
      exact ⟨by kernel_rfl, fun j t ht => by
        rw [Tryz.params4] at ht
        have hm : t ∈ [9] := by simpa using Array.mem_of_getElem? ht
        have hall : ([9].all fun u => !Tryz.prog.wantsStandIn u) = true := by kernel_rfl
        exact (show Tryz.prog.wantsStandIn t = false by simpa using List.all_eq_true.1 hall t hm)⟩)
    (by kernel_rfl)
#print axioms leaveNil_holds
end Go.Proofs.YthhnjbiiaaicmaaGreatDoor
