/- Small words for the walks. -/
import Derived.Test.YtoplhlacdjlidaaWAll
import Derived.Lib.SliceRun
namespace Go.Proofs.Ytoplhlacdjlidaa.Ret
open Go.RowKit Go.Proofs.YtoplhlacdjlidaaW.PrintWords Go.Proofs.YtoplhlacdjlidaaW.PrintLast
theorem ret_ie (l : List UInt8) : Ending.returned (.bool l.isEmpty) = .returned (.bool (!(l != []))) := by cases l <;> rfl
theorem C_string_ {P : Program} {w : World} {src dst e : TypeId} {A : Option Addr} {n c : Nat} {xs : List Int} (hs : P.underlying src = some (.slice e)) (he : P.underlying e = some (.int .u8)) (hd : P.underlying dst = some .string)
    (h : (Kd.int .u8).C w A n xs) : ∀ m, m = n → (convert src dst (.slice A m c)).run P w = .ok (.string (strOfNums xs)) w := fun _ hm => hm ▸ Kd.C_string hs he hd h
/-- More may be held from here on. -/
theorem more_ {P : Program} {ops : Array Oper} {Q : Exit → Act → World → Prop} {md : Region.Mode} {S S2 : World → Prop} : ∀ {fuel : Nat} {l : Array Bool} {a : Act} {w : World}, S w → S2 w → wpAnyLast P md ops Q (fun w' => S w' ∧ S2 w') [] fuel l a w → wpAnyLast P md ops Q S [] fuel l a w
  | 0, _, _, _, _, _, h => h
  | _ + 1, _, _, _, h1, h2, h => ⟨h.1, fun i hi => wpOp_mono (fun a' w' h' => by
      have h3 := h'.1 (by simp) ⟨h1, h2⟩
      exact ⟨fun _ _ => h3.1, more_ h3.1 h3.2 h'.2⟩) (h.2 i hi)⟩
end Go.Proofs.Ytoplhlacdjlidaa.Ret
