/- The program as the abstract machine takes it, with the library functions that are taken whole; and chapter 20's example, reckoned. -/
import Derived.Test.YthhnjbiiaaicmaaGreatDoorVd
import Derived.Test.YthhnjbiiaaicmaaGreatDoorShelf
import Derived.KernelRfl
namespace Go.Proofs.YthhnjbiiaaicmaaGreatDoor
open Go Go.VAbs Go.RowKit Go.Maps Go.Sort

/-- slices.Sorted of maps.Keys, at a map of strings' keys. -/
theorem sortedC : SortedC Tryz.prog 92 125 9 := by
  intro Bm b nn D0 R w hBm hm hown hmax hbytes
  refine (callsIn_wide (n := 5)).1 ?_
  have hsorts : AnyZ.SortsIn Tryz.prog Tryz.sorted92_ren Fence.wide (5 - 1) :=
    ⟨fun blk off cap ss W hH hblk hsz => callsIn_wide.2 (AnyM.slices_Sort_string Tryz.sort124 blk off cap ss W hH hblk hsz),
     fun p cap W => callsIn_wide.2 (AnyM.slices_Sort_string_none Tryz.sort124 p cap W)⟩
  have hseq : SeqGives Fence.wide 2 Tryz.prog 125 #[.pointer (some ⟨Bm, 0, none⟩)] encStr (fun ss => ss.Perm (strKeys D0)) (Maps.size D0) w :=
    AnyZ.keys_gives (ρ := Tryz.keys93_ren) { Tryz.keys93 with } Fence.wide _ trivial rfl (by omega) Bm b nn D0 w hBm hm hown
  exact AnyZ.sorted_in Tryz.sorted92 Fence.wide 5 trivial trivial trivial trivial rfl (by omega) hsorts (enters_of Tryz.func124 (by kernel_rfl) rfl) 125 #[.pointer (some ⟨Bm, 0, none⟩)] trivial (enters_of Tryz.func125 (by kernel_rfl) rfl) _ _ hmax hbytes _ hseq

noncomputable def prims0 : Nat → Option (List Value → AS → Option (Value × AS))
  | 81 => some (pReplaceL 0)
  | 145 => some pJoinL
  | 92 => some (pSortedL 125)
  | _ => none
noncomputable def prims1 : Nat → Option (List Value → AS → Option (Value × AS))
  | 14 => some (pClosed (.bool true))
  | n => prims0 n
noncomputable def E0 : Env := Env.of Tryz.prog (oneGlob 0) prims0
noncomputable def E1 : Env := Env.of Tryz.prog (oneGlob 0) prims1

theorem mixed : Tryz.prog.follows .mixedOrders = true := by kernel_rfl
theorem allOk : Tryz.prog.funcs.toList.all funcOk = true := by kernel_rfl
theorem prims0_ok (prims : Nat → Option (List Value → AS → Option (Value × AS))) : ∀ n g, prims0 n = some g → PrimOk (Env.of Tryz.prog (oneGlob 0) prims) n g ∧ ∃ fn, Tryz.prog.funcs[n]? = some fn ∧ fn.body.isNone = false := by
  intro n g h
  unfold prims0 at h
  split at h
  · cases h; exact ⟨replace_ok (gM := 0) (mb := 0) rfl (fun s old new k m w h1 h2 h3 h4 => Tryz.strings_Replace s old new k m w h1 h2 h3 h4), _, Tryz.func81, by kernel_rfl⟩
  · cases h; exact ⟨join_ok ⟨fun a c sep w => Tryz.strings_Join_none a c sep w, fun bk o c xs sep w h1 h2 h3 h4 h5 => Tryz.strings_Join bk o c xs sep w h1 h2 h3 h4 h5⟩, _, Tryz.func145, by kernel_rfl⟩
  · cases h; exact ⟨sorted_ok (K := 9) Tryz.underlying9 sortedC, _, Tryz.func92, by kernel_rfl⟩
  · cases h
theorem ok0 : ProgOk E0 := progOk_of mixed allOk (prims0_ok prims0)

set_option maxRecDepth 1000000 in
theorem awakeF : ∀ m : Int, (fcall E0 3000 14 [] (VAbs.start m)).map (·.1) = some (.bool true) := by
  intro m
  kernel_rfl
theorem awake (m : Int) : (acall E0 3000 14 [] (VAbs.start m)).map (·.1) = some (.bool true) := by
  rw [← fcall_eq]; exact awakeF m
theorem ok1 : ProgOk E1 := by
  refine progOk_of mixed allOk ?_
  intro n g h
  unfold prims1 at h
  split at h
  · cases h; exact ⟨closed_ok ok0 rfl rfl awake rfl rfl, _, Tryz.func14, by kernel_rfl⟩
  · exact prims0_ok prims1 n g h
end Go.Proofs.YthhnjbiiaaicmaaGreatDoor
