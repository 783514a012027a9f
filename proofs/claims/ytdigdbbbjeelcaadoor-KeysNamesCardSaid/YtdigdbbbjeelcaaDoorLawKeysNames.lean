/- The law millhandlaw22.KeysNames holds for every input: it returns true and each argument reads afterwards as before. No condition of its own. -/
import Derived.Test.YtdigdbbbjeelcaaDoorRows
import Derived.Test.YtdigdbbbjeelcaaDoorTie
import Derived.Test.YtdigdbbbjeelcaaDoorCards
import Derived.SevenTiedAt
import Derived.Test.YtdigdbbbjeelcaaDoorRKNames
import Derived.Test.YtdigdbbbjeelcaaDoorROp
import Derived.WalkKit
import Derived.ProofKit
import Derived.OpenShut
import Derived.ShutString
import Derived.ChangeOld
import Derived.Below
import Derived.SizedLaws
import Derived.LaidLaws
import Derived.LaidHandle
import Derived.Lay
import Derived.LaidMore
namespace Go.Proofs.YtdigdbbbjeelcaaDoor.keysNames
open Go.ChangeShapes Go.WideShapes Go.ChangeAt Go.RowKit
open Go.ChangeMaps (open_string shut_string)
open Go.Proofs.YtdigdbbbjeelcaaDoorW.PrintWords Go.Proofs.YtdigdbbbjeelcaaDoor.R Go.Proofs.YtdigdbbbjeelcaaDoor.Opens
set_option linter.unusedVariables false
theorem own : ownKnob Tryd.prog.godebug = none := by kernel_rfl
theorem laidOut : laidOutB Tryd.prog = true := by kernel_rfl
set_option maxRecDepth 100000 in
theorem lifted (os : Os) (started : os.Started) (H : Type) (enc : TypeId × Value → H) :
    ReturnsInHanded {} Tryd.checked os 5 .any (Rows.keysNamesSpec.pre6 enc Tryd.prog Tryd.f5 Rows.keysNamesRow.domain false) (Rows.keysNamesSpec.post enc Tryd.prog Tryd.f5 false true false false) := by
  refine returnsInHanded_of_change_sized (C := Tryd.checked) own started (by kernel_rfl) Tryd.func5
    (ChangeSpec.witness6 (enc := enc) (C := Tryd.checked) false ⟨#[], #[], []⟩ 8 (by kernel_rfl) (by kernel_rfl) (by kernel_rfl) (by kernel_rfl)) ?_
  intro W base args ds gs before hval0 hW hcnd hsz0 _
  have hsz : (DataW.weightsEach Tryd.prog (Tryd.f5.params.toList ++ Rows.keysNamesSpec.plain.varTypes Tryd.prog) (ds ++ gs)).all (· ≤ reachBytes) = true := hsz0
  have hval : ∀ (j : Nat) t v, Tryd.f5.params[j]? = some t → args[j]? = some v → Value.okWide Tryd.prog W .any base t v := hval0
  have hW' := hW
  obtain ⟨p, q, hA0, hV, rfl, hfz, hnd⟩ := hW
  have hA : DataW.TrodAll enc Tryd.prog W 0 (fun _ => true) true Tryd.f5.params.toList args.toList ds p := hA0
  rw [Tryd.params5] at hA hval hsz
  obtain ⟨rfl, rfl, rfl⟩ := trodAll_none hA
  obtain ⟨rfl, rfl⟩ := trodVars_none hV
  clear hA0 hval0 hsz0 hsz
  refine (KeysNames_walk W ).mono fun e W' ⟨he, bel⟩ => ?_
  subst he
  exact ⟨_, rfl, _, _, _, [], _, [], hW', trodAll_mk1 (shut_bool Tryd.underlying4 _), trodAll_mk0, rfl, bel.frame _, fun h => by cases h⟩
theorem hand_more {a : Assume} {C : Checked} {os : Os} {f : FuncId} {r : Reach} {Pre Pre' : World → Array Value → Prop} {Post : World → Array Value → Value → World → Prop}
    (h : ReturnsInHanded a C os f r Pre Post) (hs : ∀ w args, Pre' w args → Pre w args)
    (hw : ∃ (w : World) (tape : Tape) (i : Input), w.os = os ∧ (w.forCall tape i).Shaped C.prog ∧ i.vars = [] ∧ Input.okWide C.prog (w.forCall tape i) r w.heap.size f i ∧ Pre' (w.forCall tape i).memory i.args ∧ a.holds C.prog (lone (Frame.enter C.prog f i.args .normal) [] (w.forCall tape i))) :
    ReturnsInHanded a C os f r Pre' Post := by
  intro he
  obtain ⟨h1, h2, h3, _, h5⟩ := h he
  obtain ⟨w, tape, i, k1, k2, k3, k4, k5, k6⟩ := hw
  exact ⟨h1, h2, h3, ⟨w, tape, i, k1, k2, k3, k4, k5, k6, trivial⟩, fun w tape i hf => h5 w tape i ⟨hf.1, hf.2.1, hf.2.2.1, hf.2.2.2.1, hs _ _ hf.2.2.2.2.1, hf.2.2.2.2.2⟩⟩
set_option maxRecDepth 100000 in
theorem lifted2 (os : Os) (started : os.Started) (H : Type) (enc : TypeId × Value → H) :
    ReturnsInHanded {} Tryd.checked os 5 .any (Rows.keysNamesRow.pre enc Tryd.prog Tryd.f5 (OpenSpec.ofChange Rows.keysNamesSpec)) (Rows.keysNamesSpec.post enc Tryd.prog Tryd.f5 false true false false) :=
  hand_more (lifted os started H enc) (fun w args h => ⟨h.1.1, h.2⟩)
    (ChangeSpec.witness_shaped (enc := enc) (C := Tryd.checked) (X := fun w _ => laidMetH Tryd.prog Rows.keysNamesRow.laid w) false (World.laidAll Tryd.prog os Rows.keysNamesRow.laid) #[] 8 (World.laidAll_os _ _ _) (World.shaped_of_B (by kernel_rfl) (by kernel_rfl)) (by kernel_rfl) (by kernel_rfl) (by kernel_rfl) (by rw [MakeChecks.laidMetH_plain _ _ _ (by kernel_rfl)]; exact laidMet_laidAll _ (by kernel_rfl) (by kernel_rfl)))
theorem over : Rows.keysNamesRow.holds Tryd.pinned (OpenSpec.ofChange Rows.keysNamesSpec) :=
  OpenClaim.holds_of_wide 5 Tryd.f5 rfl rfl rfl rfl rfl rfl rfl ⟨rfl, rfl, rfl, rfl, rfl⟩ rfl rfl rfl rfl rfl (by kernel_rfl) Tryd.func5 (by kernel_rfl)
    (of_decide_eq_true (by kernel_rfl)) (by unfold Func.isWrapper; first | (rw [if_pos (by decide +kernel)]; kernel_rfl) | (rw [if_neg (by decide +kernel)]; exact ⟨rfl, rfl⟩))
    (fun os started H enc _ => lifted2 os started H enc)
theorem proved : Rows.KeysNamesSaid := over
#print axioms proved
end Go.Proofs.YtdigdbbbjeelcaaDoor.keysNames
namespace Go.Proofs.YtdigdbbbjeelcaaDoor
/-- The row, under a short name, for the claim. -/
theorem keysNames_holds : Rows.KeysNamesSaid := keysNames.proved
theorem wants_of {P : Program} (l : Array TypeId) (h : l.all (fun t => P.wantsStandIn t == false) = true) (j : Nat) (t : TypeId) (ht : l[j]? = some t) : P.wantsStandIn t = false := by
  have := Array.all_eq_true_iff_forall_mem.mp h t (Array.mem_of_getElem? ht)
  simpa using this
/-- The card. -/
theorem keysNames_card_holds : Rows.KeysNamesCardSaid :=
  Claim7.holds_tied_plain_at .later [] [.data, .pinned] true (true, "096498be81dd87cef28b932fbb35a6ae040e703fbb21e950330ab82ef63ecb14") false keysNames.proved (fun _ h => by cases h) (by kernel_rfl) (fun _ h => by cases h) keysNames_row_tie rfl ⟨rfl, rfl⟩ (by kernel_rfl) rfl
    (fun f fn hf hfn => by
      obtain rfl : f = 5 := Option.some.inj (hf.symm.trans (by kernel_rfl))
      obtain rfl : fn = Tryd.f5 := Option.some.inj (hfn.symm.trans Tryd.func5)
      exact ⟨by kernel_rfl, wants_of _ (by kernel_rfl)⟩) (by kernel_rfl)
end Go.Proofs.YtdigdbbbjeelcaaDoor
