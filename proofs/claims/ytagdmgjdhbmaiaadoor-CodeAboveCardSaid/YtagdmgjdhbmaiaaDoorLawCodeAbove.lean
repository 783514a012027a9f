/- The law millhandlaw01.CodeAbove holds for every input: it returns true and each argument reads afterwards as before. No condition of its own. -/
import Derived.Test.YtagdmgjdhbmaiaaDoorRows
import Derived.Test.YtagdmgjdhbmaiaaDoorTie
import Derived.Test.YtagdmgjdhbmaiaaDoorCards
import Derived.SevenTiedAt
import Derived.Test.YtagdmgjdhbmaiaaDoorRKCAbove
import Derived.Test.YtagdmgjdhbmaiaaDoorROp
import Derived.WalkKit
import Derived.ProofKit
import Derived.OpenShut
import Derived.ShutString
import Derived.ChangeOld
import Derived.Below
import Derived.SizedLaws
import Derived.LaidLaws
import Derived.LaidHandle
import Derived.Lay
import Derived.LaidMore
namespace Go.Proofs.YtagdmgjdhbmaiaaDoor.codeAbove
open Go.ChangeShapes Go.WideShapes Go.ChangeAt Go.RowKit
open Go.ChangeMaps (open_string shut_string)
open Go.Proofs.YtagdmgjdhbmaiaaDoorW.PrintWords Go.Proofs.YtagdmgjdhbmaiaaDoor.R Go.Proofs.YtagdmgjdhbmaiaaDoor.Opens
set_option linter.unusedVariables false
theorem own : ownKnob Tryd.prog.godebug = none := by kernel_rfl
theorem laidOut : laidOutB Tryd.prog = true := by kernel_rfl
set_option maxRecDepth 100000 in
theorem lifted (os : Os) (started : os.Started) (H : Type) (enc : TypeId × Value → H) :
    ReturnsInHanded {} Tryd.checked os 6 .any (Rows.codeAboveSpec.pre6 enc Tryd.prog Tryd.f6 Rows.codeAboveRow.domain false) (Rows.codeAboveSpec.post enc Tryd.prog Tryd.f6 false true false false) := by
  refine returnsInHanded_of_change_sized (C := Tryd.checked) own started (by kernel_rfl) Tryd.func6
    (ChangeSpec.witness6 (enc := enc) (C := Tryd.checked) false ⟨#[], #[.string ByteArray.empty, .string ByteArray.empty], []⟩ 8 (by kernel_rfl) (by kernel_rfl) (by kernel_rfl) (by kernel_rfl)) ?_
  intro W base args ds gs before hval0 hW hcnd hsz0 _
  have hsz : (DataW.weightsEach Tryd.prog (Tryd.f6.params.toList ++ Rows.codeAboveSpec.plain.varTypes Tryd.prog) (ds ++ gs)).all (· ≤ reachBytes) = true := hsz0
  have hval : ∀ (j : Nat) t v, Tryd.f6.params[j]? = some t → args[j]? = some v → Value.okWide Tryd.prog W .any base t v := hval0
  have hW' := hW
  obtain ⟨p, q, hA0, hV, rfl, hfz, hnd⟩ := hW
  have hA : DataW.TrodAll enc Tryd.prog W 0 (fun _ => true) true Tryd.f6.params.toList args.toList ds p := hA0
  rw [Tryd.params6] at hA hval hsz
  obtain ⟨v0, vs0, d0, ds0, p0, q0, hargs, rfl, rfl, h0, r0⟩ := trodAll_cons hA
  obtain ⟨v1, vs1, d1, ds1, p1, q1, rfl, rfl, rfl, h1, r1⟩ := trodAll_cons r0
  obtain ⟨rfl, rfl, rfl⟩ := trodAll_nil r1
  obtain rfl : args = #[v0, v1] := by cases args; simp_all
  obtain ⟨rfl, rfl⟩ := trodVars_none hV
  obtain ⟨a0, rfl, rfl, rfl, y0⟩ := open_string Tryd.underlying9 (hval 0 9 v0 rfl rfl) h0
  have w0 : a0.size ≤ 140737488351232 := by
    have z := sized_string hsz (j := 0) (t := 9) rfl rfl
    rw [Array.length_toList] at z
    exact z
  obtain ⟨a1, rfl, rfl, rfl, y1⟩ := open_string Tryd.underlying9 (hval 1 9 v1 rfl rfl) h1
  have w1 : a1.size ≤ 140737488351232 := by
    have z := sized_string hsz (j := 1) (t := 9) rfl rfl
    rw [Array.length_toList] at z
    exact z
  clear hA0 hval0 hsz0 hsz
  refine (CodeAbove_walk W a0 w0 a1 w1).mono fun e W' ⟨he, bel⟩ => ?_
  subst he
  exact ⟨_, rfl, _, _, _, [], _, [], hW', trodAll_mk1 (shut_bool Tryd.underlying4 _), (trodAll_cons_mk (shut_string Tryd.underlying9 y0) (trodAll_cons_mk (shut_string Tryd.underlying9 y1) trodAll_mk0)), rfl, bel.frame _, fun h => by cases h⟩
theorem hand_more {a : Assume} {C : Checked} {os : Os} {f : FuncId} {r : Reach} {Pre Pre' : World → Array Value → Prop} {Post : World → Array Value → Value → World → Prop}
    (h : ReturnsInHanded a C os f r Pre Post) (hs : ∀ w args, Pre' w args → Pre w args)
    (hw : ∃ (w : World) (tape : Tape) (i : Input), w.os = os ∧ (w.forCall tape i).Shaped C.prog ∧ i.vars = [] ∧ Input.okWide C.prog (w.forCall tape i) r w.heap.size f i ∧ Pre' (w.forCall tape i).memory i.args ∧ a.holds C.prog (lone (Frame.enter C.prog f i.args .normal) [] (w.forCall tape i))) :
    ReturnsInHanded a C os f r Pre' Post := by
  intro he
  obtain ⟨h1, h2, h3, _, h5⟩ := h he
  obtain ⟨w, tape, i, k1, k2, k3, k4, k5, k6⟩ := hw
  exact ⟨h1, h2, h3, ⟨w, tape, i, k1, k2, k3, k4, k5, k6, trivial⟩, fun w tape i hf => h5 w tape i ⟨hf.1, hf.2.1, hf.2.2.1, hf.2.2.2.1, hs _ _ hf.2.2.2.2.1, hf.2.2.2.2.2⟩⟩
set_option maxRecDepth 100000 in
theorem lifted2 (os : Os) (started : os.Started) (H : Type) (enc : TypeId × Value → H) :
    ReturnsInHanded {} Tryd.checked os 6 .any (Rows.codeAboveRow.pre enc Tryd.prog Tryd.f6 (OpenSpec.ofChange Rows.codeAboveSpec)) (Rows.codeAboveSpec.post enc Tryd.prog Tryd.f6 false true false false) :=
  hand_more (lifted os started H enc) (fun w args h => ⟨h.1.1, h.2⟩)
    (ChangeSpec.witness_shaped (enc := enc) (C := Tryd.checked) (X := fun w _ => laidMetH Tryd.prog Rows.codeAboveRow.laid w) false (World.laidAll Tryd.prog os Rows.codeAboveRow.laid) #[.string ByteArray.empty, .string ByteArray.empty] 8 (World.laidAll_os _ _ _) (World.shaped_of_B (by kernel_rfl) (by kernel_rfl)) (by kernel_rfl) (by kernel_rfl) (by kernel_rfl) (by rw [MakeChecks.laidMetH_plain _ _ _ (by kernel_rfl)]; exact laidMet_laidAll _ (by kernel_rfl) (by kernel_rfl)))
theorem over : Rows.codeAboveRow.holds Tryd.pinned (OpenSpec.ofChange Rows.codeAboveSpec) :=
  OpenClaim.holds_of_wide 6 Tryd.f6 rfl rfl rfl rfl rfl rfl rfl ⟨rfl, rfl, rfl, rfl, rfl⟩ rfl rfl rfl rfl rfl (by kernel_rfl) Tryd.func6 (by kernel_rfl)
    (of_decide_eq_true (by kernel_rfl)) (by unfold Func.isWrapper; first | (rw [if_pos (by decide +kernel)]; kernel_rfl) | (rw [if_neg (by decide +kernel)]; exact ⟨rfl, rfl⟩))
    (fun os started H enc _ => lifted2 os started H enc)
theorem proved : Rows.CodeAboveSaid := over
#print axioms proved
end Go.Proofs.YtagdmgjdhbmaiaaDoor.codeAbove
namespace Go.Proofs.YtagdmgjdhbmaiaaDoor
/-- The row, under a short name, for the claim. -/
theorem codeAbove_holds : Rows.CodeAboveSaid := codeAbove.proved
theorem wants_of {P : Program} (l : Array TypeId) (h : l.all (fun t => P.wantsStandIn t == false) = true) (j : Nat) (t : TypeId) (ht : l[j]? = some t) : P.wantsStandIn t = false := by
  have := Array.all_eq_true_iff_forall_mem.mp h t (Array.mem_of_getElem? ht)
  simpa using this
/-- The card. -/
theorem codeAbove_card_holds : Rows.CodeAboveCardSaid :=
  Claim7.holds_tied_plain_at .later [] [.data, .pinned] true (true, "25a33092b9ee5790e8407231b5007f7167e938a45bd5769b0ffedfebd866569b") false codeAbove.proved (fun _ h => by cases h) (by kernel_rfl) (fun _ h => by cases h) codeAbove_row_tie rfl ⟨rfl, rfl⟩ (by kernel_rfl) rfl
    (fun f fn hf hfn => by
      obtain rfl : f = 6 := Option.some.inj (hf.symm.trans (by kernel_rfl))
      obtain rfl : fn = Tryd.f6 := Option.some.inj (hfn.symm.trans Tryd.func6)
      exact ⟨by kernel_rfl, wants_of _ (by kernel_rfl)⟩) (by kernel_rfl)
end Go.Proofs.YtagdmgjdhbmaiaaDoor
