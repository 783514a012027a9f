/- The law millhandlaw01.CodeBack holds for every input: it returns true and each argument reads afterwards as before. No condition of its own. -/
import Derived.Test.YtagdmgjdhbmaiaaDoorRows
import Derived.Test.YtagdmgjdhbmaiaaDoorTie
import Derived.Test.YtagdmgjdhbmaiaaDoorCards
import Derived.SevenTiedAt
import Derived.Test.YtagdmgjdhbmaiaaDoorRKCBack
import Derived.Test.YtagdmgjdhbmaiaaDoorROp
import Derived.WalkKit
import Derived.ProofKit
import Derived.OpenShut
import Derived.ShutString
import Derived.ChangeOld
import Derived.Below
import Derived.SizedLaws
import Derived.LaidLaws
import Derived.LaidHandle
import Derived.Lay
import Derived.LaidMore
namespace Go.Proofs.YtagdmgjdhbmaiaaDoor.codeBack
open Go.ChangeShapes Go.WideShapes Go.ChangeAt Go.RowKit
open Go.ChangeMaps (open_string shut_string)
open Go.Proofs.YtagdmgjdhbmaiaaDoorW.PrintWords Go.Proofs.YtagdmgjdhbmaiaaDoor.R Go.Proofs.YtagdmgjdhbmaiaaDoor.Opens
set_option linter.unusedVariables false
theorem own : ownKnob Tryd.prog.godebug = none := by kernel_rfl
theorem laidOut : laidOutB Tryd.prog = true := by kernel_rfl
set_option maxRecDepth 100000 in
theorem lifted (os : Os) (started : os.Started) (H : Type) (enc : TypeId × Value → H) :
    ReturnsInHanded {} Tryd.checked os 7 .any (Rows.codeBackSpec.pre6 enc Tryd.prog Tryd.f7 Rows.codeBackRow.domain false) (Rows.codeBackSpec.post enc Tryd.prog Tryd.f7 false true false false) := by
  refine returnsInHanded_of_change_sized (C := Tryd.checked) own started (by kernel_rfl) Tryd.func7
    (ChangeSpec.witness6 (enc := enc) (C := Tryd.checked) false ⟨#[], #[.int .u64 0, .string ByteArray.empty, .slice none 0 0], []⟩ 8 (by kernel_rfl) (by kernel_rfl) (by kernel_rfl) (by kernel_rfl)) ?_
  intro W base args ds gs before hval0 hW hcnd hsz0 _
  have hsz : (DataW.weightsEach Tryd.prog (Tryd.f7.params.toList ++ Rows.codeBackSpec.plain.varTypes Tryd.prog) (ds ++ gs)).all (· ≤ reachBytes) = true := hsz0
  have hval : ∀ (j : Nat) t v, Tryd.f7.params[j]? = some t → args[j]? = some v → Value.okWide Tryd.prog W .any base t v := hval0
  have hW' := hW
  obtain ⟨p, q, hA0, hV, rfl, hfz, hnd⟩ := hW
  have hA : DataW.TrodAll enc Tryd.prog W 0 (fun _ => true) true Tryd.f7.params.toList args.toList ds p := hA0
  rw [Tryd.params7] at hA hval hsz
  obtain ⟨v0, vs0, d0, ds0, p0, q0, hargs, rfl, rfl, h0, r0⟩ := trodAll_cons hA
  obtain ⟨v1, vs1, d1, ds1, p1, q1, rfl, rfl, rfl, h1, r1⟩ := trodAll_cons r0
  obtain ⟨v2, vs2, d2, ds2, p2, q2, rfl, rfl, rfl, h2, r2⟩ := trodAll_cons r1
  obtain ⟨rfl, rfl, rfl⟩ := trodAll_nil r2
  obtain rfl : args = #[v0, v1, v2] := by cases args; simp_all
  obtain ⟨rfl, rfl⟩ := trodVars_none hV
  obtain ⟨a0, rfl, rfl, rfl, w0⟩ := open_int Tryd.underlying40 (hval 0 40 v0 rfl rfl) h0
  obtain ⟨a1, rfl, rfl, rfl, y1⟩ := open_string Tryd.underlying9 (hval 1 9 v1 rfl rfl) h1
  have w1 : a1.size ≤ 140737488351232 := by
    have z := sized_string hsz (j := 1) (t := 9) rfl rfl
    rw [Array.length_toList] at z
    exact z
  have k2_ := h2
  have lt2 : ∀ x ∈ p2, x.block < W.heap.size := by obtain ⟨m, hm⟩ := k2_; exact DataW.trod_lt m _ _ _ hm
  obtain ⟨A2, len2, c2, rfl⟩ := okWide_slice Tryd.underlying41 (hval 2 41 v2 rfl rfl)
  obtain ⟨l2, kk2, g2_⟩ := op41.arg h2 hsz (j := 2) rfl rfl
  obtain ⟨A2', c2', hcs2, le2, C2⟩ := kk2
  have hcs2' : [Value.slice A2 len2 c2] = [.slice A2' l2.length c2'] := hcs2
  injection hcs2' with hcs2' _
  injection hcs2' with e1 e2 e3
  subst e1 e2 e3
  clear hA0 hval0 hsz0 hsz
  refine (CodeBack_walk W a0 w0 a1 w1 A2 c2 l2 C2 le2 g2_).mono fun e W' ⟨he, bel⟩ => ?_
  subst he
  exact ⟨_, rfl, _, _, _, [], _, [], hW', trodAll_mk1 (shut_bool Tryd.underlying4 _), (trodAll_cons_mk (shut_int Tryd.underlying40 w0) (trodAll_cons_mk (shut_string Tryd.underlying9 y1) (trodAll_cons_mk (Below.trod laidOut (by kernel_rfl) (of_decide_eq_true (by kernel_rfl)) k2_ bel lt2) trodAll_mk0))), rfl, bel.frame _, fun h => by cases h⟩
theorem hand_more {a : Assume} {C : Checked} {os : Os} {f : FuncId} {r : Reach} {Pre Pre' : World → Array Value → Prop} {Post : World → Array Value → Value → World → Prop}
    (h : ReturnsInHanded a C os f r Pre Post) (hs : ∀ w args, Pre' w args → Pre w args)
    (hw : ∃ (w : World) (tape : Tape) (i : Input), w.os = os ∧ (w.forCall tape i).Shaped C.prog ∧ i.vars = [] ∧ Input.okWide C.prog (w.forCall tape i) r w.heap.size f i ∧ Pre' (w.forCall tape i).memory i.args ∧ a.holds C.prog (lone (Frame.enter C.prog f i.args .normal) [] (w.forCall tape i))) :
    ReturnsInHanded a C os f r Pre' Post := by
  intro he
  obtain ⟨h1, h2, h3, _, h5⟩ := h he
  obtain ⟨w, tape, i, k1, k2, k3, k4, k5, k6⟩ := hw
  exact ⟨h1, h2, h3, ⟨w, tape, i, k1, k2, k3, k4, k5, k6, trivial⟩, fun w tape i hf => h5 w tape i ⟨hf.1, hf.2.1, hf.2.2.1, hf.2.2.2.1, hs _ _ hf.2.2.2.2.1, hf.2.2.2.2.2⟩⟩
set_option maxRecDepth 100000 in
theorem lifted2 (os : Os) (started : os.Started) (H : Type) (enc : TypeId × Value → H) :
    ReturnsInHanded {} Tryd.checked os 7 .any (Rows.codeBackRow.pre enc Tryd.prog Tryd.f7 (OpenSpec.ofChange Rows.codeBackSpec)) (Rows.codeBackSpec.post enc Tryd.prog Tryd.f7 false true false false) :=
  hand_more (lifted os started H enc) (fun w args h => ⟨h.1.1, h.2⟩)
    (ChangeSpec.witness_shaped (enc := enc) (C := Tryd.checked) (X := fun w _ => laidMetH Tryd.prog Rows.codeBackRow.laid w) false (World.laidAll Tryd.prog os Rows.codeBackRow.laid) #[.int .u64 0, .string ByteArray.empty, .slice none 0 0] 8 (World.laidAll_os _ _ _) (World.shaped_of_B (by kernel_rfl) (by kernel_rfl)) (by kernel_rfl) (by kernel_rfl) (by kernel_rfl) (by rw [MakeChecks.laidMetH_plain _ _ _ (by kernel_rfl)]; exact laidMet_laidAll _ (by kernel_rfl) (by kernel_rfl)))
theorem over : Rows.codeBackRow.holds Tryd.pinned (OpenSpec.ofChange Rows.codeBackSpec) :=
  OpenClaim.holds_of_wide 7 Tryd.f7 rfl rfl rfl rfl rfl rfl rfl ⟨rfl, rfl, rfl, rfl, rfl⟩ rfl rfl rfl rfl rfl (by kernel_rfl) Tryd.func7 (by kernel_rfl)
    (of_decide_eq_true (by kernel_rfl)) (by unfold Func.isWrapper; first | (rw [if_pos (by decide +kernel)]; kernel_rfl) | (rw [if_neg (by decide +kernel)]; exact ⟨rfl, rfl⟩))
    (fun os started H enc _ => lifted2 os started H enc)
theorem proved : Rows.CodeBackSaid := over
#print axioms proved
end Go.Proofs.YtagdmgjdhbmaiaaDoor.codeBack
namespace Go.Proofs.YtagdmgjdhbmaiaaDoor
/-- The row, under a short name, for the claim. -/
theorem codeBack_holds : Rows.CodeBackSaid := codeBack.proved
theorem wants_of {P : Program} (l : Array TypeId) (h : l.all (fun t => P.wantsStandIn t == false) = true) (j : Nat) (t : TypeId) (ht : l[j]? = some t) : P.wantsStandIn t = false := by
  have := Array.all_eq_true_iff_forall_mem.mp h t (Array.mem_of_getElem? ht)
  simpa using this
/-- The card. -/
theorem codeBack_card_holds : Rows.CodeBackCardSaid :=
  Claim7.holds_tied_plain_at .later [] [.data, .pinned] true (true, "25a33092b9ee5790e8407231b5007f7167e938a45bd5769b0ffedfebd866569b") false codeBack.proved (fun _ h => by cases h) (by kernel_rfl) (fun _ h => by cases h) codeBack_row_tie rfl ⟨rfl, rfl⟩ (by kernel_rfl) rfl
    (fun f fn hf hfn => by
      obtain rfl : f = 7 := Option.some.inj (hf.symm.trans (by kernel_rfl))
      obtain rfl : fn = Tryd.f7 := Option.some.inj (hfn.symm.trans Tryd.func7)
      exact ⟨by kernel_rfl, wants_of _ (by kernel_rfl)⟩) (by kernel_rfl)
end Go.Proofs.YtagdmgjdhbmaiaaDoor
