/- The program as the abstract machine takes it, with the library functions that are taken whole. -/
import Derived.Test.YtmeaipadifoaeaaGreatDoorVe
import Derived.Test.YtmeaipadifoaeaaGreatDoorShelf
import Derived.KernelRfl
namespace Go.Proofs.YtmeaipadifoaeaaGreatDoor
open Go Go.VAbs Go.RowKit Go.Maps Go.Sort
/-- slices.Sorted of maps.Keys, at a map of strings' keys. -/
theorem sortedA : SortedC Tryz.prog 156 186 9 := by
  intro Bm b nn D0 R w hBm hm hown hmax hbytes
  refine (callsIn_wide (n := 5)).1 ?_
  have hsorts : AnyZ.SortsIn Tryz.prog Tryz.sortedS_ren Fence.wide (5 - 1) :=
    ⟨fun blk off cap ss W hH hblk hsz => callsIn_wide.2 (AnyM.slices_Sort_string Tryz.sortS blk off cap ss W hH hblk hsz),
     fun p cap W => callsIn_wide.2 (AnyM.slices_Sort_string_none Tryz.sortS p cap W)⟩
  have hseq : SeqGives Fence.wide 2 Tryz.prog 186 #[.pointer (some ⟨Bm, 0, none⟩)] encStr (fun ss => ss.Perm (strKeys D0)) (Maps.size D0) w :=
    AnyZ.keys_gives (ρ := Tryz.keysA_ren) { Tryz.keysA with } Fence.wide _ trivial rfl (by omega) Bm b nn D0 w hBm hm hown
  exact AnyZ.sorted_in Tryz.sortedS Fence.wide 5 trivial trivial trivial trivial rfl (by omega) hsorts (enters_of Tryz.func185 (by kernel_rfl) rfl) 186 #[.pointer (some ⟨Bm, 0, none⟩)] trivial (enters_of Tryz.func186 (by kernel_rfl) rfl) _ _ hmax hbytes _ hseq
noncomputable def prims0 : Nat → Option (List Value → AS → Option (Value × AS))
  | 140 => some (pReplaceL 0)
  | 194 => some pJoinL
  | 156 => some (pSortedL 186)
  | _ => none
noncomputable def E0 : Env := Env.of Tryz.prog (oneGlob 0) prims0
theorem mixed : Tryz.prog.follows .mixedOrders = true := by kernel_rfl
theorem allOk : Tryz.prog.funcs.toList.all funcOk = true := by kernel_rfl
theorem prims0_ok (prims : Nat → Option (List Value → AS → Option (Value × AS))) : ∀ n g, prims0 n = some g → PrimOk (Env.of Tryz.prog (oneGlob 0) prims) n g ∧ ∃ fn, Tryz.prog.funcs[n]? = some fn ∧ fn.body.isNone = false := by
  intro n g h
  unfold prims0 at h
  split at h
  · cases h; exact ⟨replace_ok (gM := 0) (mb := 0) rfl (fun s old new k m w h1 h2 h3 h4 => Tryz.strings_Replace s old new k m w h1 h2 h3 h4), _, Tryz.func140, by kernel_rfl⟩
  · cases h; exact ⟨join_ok ⟨fun a c sep w => Tryz.strings_Join_none a c sep w, fun bk o c xs sep w h1 h2 h3 h4 h5 => Tryz.strings_Join bk o c xs sep w h1 h2 h3 h4 h5⟩, _, Tryz.func194, by kernel_rfl⟩
  · cases h; exact ⟨sorted_ok (K := 9) Tryz.underlying9 sortedA, _, Tryz.func156, by kernel_rfl⟩
  · cases h
theorem ok0 : ProgOk E0 := progOk_of mixed allOk (prims0_ok prims0)
end Go.Proofs.YtmeaipadifoaeaaGreatDoor
