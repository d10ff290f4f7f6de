/- The program as the abstract machine takes it, with the library functions that are taken whole. -/
import Derived.Test.YtejjbkocmbfpeaaGreatDoorVe
import Derived.Test.YtejjbkocmbfpeaaGreatDoorShelf
import Derived.KernelRfl
namespace Go.Proofs.YtejjbkocmbfpeaaGreatDoor
open Go Go.VAbs Go.RowKit Go.Maps Go.Sort
noncomputable def prims0 : Nat → Option (List Value → AS → Option (Value × AS))
  | 97 => some (pReplaceL 0)
  | 150 => some pJoinL
  | 142 => some (pIndexL 0)
  | 121 => some (pCountL 0)
  | _ => none
noncomputable def E0 : Env := Env.of Tryz.prog (oneGlob 0) prims0
theorem mixed : Tryz.prog.follows .mixedOrders = true := by kernel_rfl
theorem allOk : Tryz.prog.funcs.toList.all funcOk = true := by kernel_rfl
theorem prims0_ok (prims : Nat → Option (List Value → AS → Option (Value × AS))) : ∀ n g, prims0 n = some g → PrimOk (Env.of Tryz.prog (oneGlob 0) prims) n g ∧ ∃ fn, Tryz.prog.funcs[n]? = some fn ∧ fn.body.isNone = false := by
  intro n g h
  unfold prims0 at h
  split at h
  · cases h; exact ⟨replace_ok (gM := 0) (mb := 0) rfl (fun s old new k m w h1 h2 h3 h4 => Tryz.strings_Replace s old new k m w h1 h2 h3 h4), _, Tryz.func97, by kernel_rfl⟩
  · cases h; exact ⟨join_ok ⟨fun a c sep w => Tryz.strings_Join_none a c sep w, fun bk o c xs sep w h1 h2 h3 h4 h5 => Tryz.strings_Join bk o c xs sep w h1 h2 h3 h4 h5⟩, _, Tryz.func150, by kernel_rfl⟩
  · cases h; exact ⟨index_ok (gM := 0) (mb := 0) rfl (fun s sub m w h1 h2 => Tryz.stringslite_Index s sub m w h1 h2), _, Tryz.func142, by kernel_rfl⟩
  · cases h; exact ⟨count_ok (gM := 0) (mb := 0) rfl (fun s sub m w h1 h2 h3 => Tryz.strings_Count_any s sub m w h1 h2 h3), _, Tryz.func121, by kernel_rfl⟩
  · cases h
theorem ok0 : ProgOk E0 := progOk_of mixed allOk (prims0_ok prims0)
end Go.Proofs.YtejjbkocmbfpeaaGreatDoor
