/- What the types of the laws' arguments read as. -/
import Derived.Test.YtbiphljdommacaaRx6
import Derived.Test.YtbiphljdommacaaOpens
import Derived.Test.YtbiphljdommacaaRx30
import Derived.Test.YtbiphljdommacaaRx33
import Derived.Test.YtbiphljdommacaaRx34
import Derived.Test.YtbiphljdommacaaRx35
import Derived.Test.YtbiphljdommacaaRx36
import Derived.Test.YtbiphljdommacaaRx24
import Derived.Test.YtbiphljdommacaaRx37
import Derived.Test.YtbiphljdommacaaRPl
namespace Go.Proofs.Ytbiphljdommacaa.R
open Go.RowKit Go.Proofs.YtbiphljdommacaaW.PrintWords Go.Proofs.Ytbiphljdommacaa.Opens
set_option linter.unusedVariables false
theorem op3 : Opens Try.prog 3 (Kd.int .i64) (fun x => (Lit.int .i64 x).wf = true) := Opens.int Try.underlying3 (by kernel_rfl)
theorem op9 : Opens Try.prog 9 Kd.string (fun x => x.size ≤ 140737488351232) := Opens.string Try.underlying9 (by kernel_rfl)
theorem op33 : Opens Try.prog 33 (Kd.slice 3 (Kd.int .i64)) (fun x => (x.length * 8 ≤ 140737488351232 ∧ x.length ≤ 9223372036854775807 ∧ ∀ y0 ∈ x, (Lit.int .i64 y0).wf = true)) := Opens.slice Try.underlying33 (by kernel_rfl) (B := 8) (by kernel_rfl) op3
abbrev g60 (x : S60) : Prop := (x.f0.length * 8 ≤ 140737488351232 ∧ x.f0.length ≤ 9223372036854775807 ∧ ∀ y0 ∈ x.f0, (Lit.int .i64 y0).wf = true) ∧ (Lit.int .i64 x.f1).wf = true ∧ (Lit.int .i64 x.f2).wf = true
theorem op60 : Opens Try.prog 60 k60 (fun x => g60 x) :=
  Opens.struct (fun x : S60 => (x.f0, x.f1, x.f2)) (fun p => (⟨p.1, p.2.1, p.2.2⟩ : S60)) (fun _ => rfl) Try.underlying60 (fl := [(33, 0), (3, 1), (3, 2)]) (by rfl) (by kernel_rfl) (OpensF.more op33 (OpensF.more op3 (OpensF.one op3)))
theorem op22 : Opens Try.prog 22 (Kd.slice 60 k60) (fun x => (x.length * 40 ≤ 140737488351232 ∧ x.length ≤ 9223372036854775807 ∧ ∀ y0 ∈ x, g60 y0)) := Opens.slice Try.underlying22 (by kernel_rfl) (B := 40) (by kernel_rfl) op60
structure S24 where
  f0 : List S60
def k24 : Kd S24 := Kd.iso (Kd.slice 60 k60) (fun x : S24 => x.f0)
abbrev g24 (x : S24) : Prop := (x.f0.length * 40 ≤ 140737488351232 ∧ x.f0.length ≤ 9223372036854775807 ∧ ∀ y0 ∈ x.f0, g60 y0)
theorem op24 : Opens Try.prog 24 k24 (fun x => g24 x) :=
  Opens.struct (fun x : S24 => x.f0) (fun p => (⟨p⟩ : S24)) (fun _ => rfl) Try.underlying24 (fl := [(22, 0)]) (by rfl) (by kernel_rfl) (OpensF.one op22)
theorem op5 : Opens Try.prog 5 (Kd.int .u8) (fun x => (Lit.int .u8 x).wf = true) := Opens.int Try.underlying5 (by kernel_rfl)
abbrev g35 (x : S35) : Prop := (Lit.int .u8 x.f0).wf = true ∧ (Lit.int .i64 x.f1).wf = true ∧ (Lit.int .i64 x.f2).wf = true ∧ (Lit.int .i64 x.f3).wf = true ∧ (Lit.int .i64 x.f4).wf = true
theorem op35 : Opens Try.prog 35 k35 (fun x => g35 x) :=
  Opens.struct (fun x : S35 => (x.f0, x.f1, x.f2, x.f3, x.f4)) (fun p => (⟨p.1, p.2.1, p.2.2.1, p.2.2.2.1, p.2.2.2.2⟩ : S35)) (fun _ => rfl) Try.underlying35 (fl := [(5, 0), (3, 1), (3, 2), (3, 3), (3, 4)]) (by rfl) (by kernel_rfl) (OpensF.more op5 (OpensF.more op3 (OpensF.more op3 (OpensF.more op3 (OpensF.one op3)))))
theorem op27 : Opens Try.prog 27 (Kd.slice 35 k35) (fun x => (x.length * 40 ≤ 140737488351232 ∧ x.length ≤ 9223372036854775807 ∧ ∀ y0 ∈ x, g35 y0)) := Opens.slice Try.underlying27 (by kernel_rfl) (B := 40) (by kernel_rfl) op35
structure S29 where
  f0 : Int
  f1 : ByteArray
  f2 : S24
  f3 : Int
  f4 : List S35
def k29 : Kd S29 := Kd.iso (Kd.pair (Kd.int .i64) (Kd.pair Kd.string (Kd.pair k24 (Kd.pair (Kd.int .u8) (Kd.slice 35 k35))))) (fun x : S29 => (x.f0, x.f1, x.f2, x.f3, x.f4))
abbrev g29 (x : S29) : Prop := (Lit.int .i64 x.f0).wf = true ∧ x.f1.size ≤ 140737488351232 ∧ g24 x.f2 ∧ (Lit.int .u8 x.f3).wf = true ∧ (x.f4.length * 40 ≤ 140737488351232 ∧ x.f4.length ≤ 9223372036854775807 ∧ ∀ y0 ∈ x.f4, g35 y0)
theorem op29 : Opens Try.prog 29 k29 (fun x => g29 x) :=
  Opens.struct (fun x : S29 => (x.f0, x.f1, x.f2, x.f3, x.f4)) (fun p => (⟨p.1, p.2.1, p.2.2.1, p.2.2.2.1, p.2.2.2.2⟩ : S29)) (fun _ => rfl) Try.underlying29 (fl := [(3, 0), (9, 1), (24, 2), (5, 3), (27, 4)]) (by rfl) (by kernel_rfl) (OpensF.more op3 (OpensF.more op9 (OpensF.more op24 (OpensF.more op5 (OpensF.one op27)))))
end Go.Proofs.Ytbiphljdommacaa.R
namespace Go.Proofs.Ytbiphljdommacaa.R
open Go.RowKit Go.Proofs.YtbiphljdommacaaW.PrintWords Go.Proofs.YtbiphljdommacaaW.PrintLast Go.Proofs.YtbiphljdommacaaW.PrintMore Go.Proofs.Ytbiphljdommacaa.Plain Go.Proofs.Ytbiphljdommacaa.Opens
set_option linter.unusedVariables false
set_option linter.unusedSimpArgs false
def greatS (l : List NodeT) : Bool := decide (60 < l.length) || l.any fun x => decide (60 < x.f0.length)
theorem dgreat_l0 (l : List NodeT) (h60 : l.length ≤ 60) : ∀ (d i : Nat), i + d = l.length → Ev (fun k => millhandref23_Great.l0 k (i : Int) l) ((l.drop i).any fun x => decide (60 < x.f0.length))
  | 0, i, h => by
    rw [List.drop_eq_nil_of_le (by omega)]
    exact Ev.step (fun _ => millhandref23_Great.l0.eq_2 ..) (ev_neg (by omega) (Ev.now _))
  | d + 1, i, h => by
    have hi : i < l.length := by omega
    refine Ev.step (fun _ => millhandref23_Great.l0.eq_2 ..) (ev_pos (by omega) (ev_pos (by omega) ?_))
    rw [rd_node l i hi, List.drop_eq_getElem_cons hi, List.any_cons]
    by_cases hx : 60 < l[i].f0.length
    · rw [decide_eq_true hx, Bool.true_or]
      exact ev_pos (by omega) (Ev.now _)
    · rw [decide_eq_false hx, Bool.false_or]
      refine ev_neg (by omega) ?_
      rw [w64 (by omega) (by omega), show (i : Int) + 1 = ((i + 1 : Nat) : Int) by omega]
      exact dgreat_l0 l h60 d (i + 1) (by omega)
theorem dgreat_ev (l : List NodeT) : Ev (fun k => millhandref23_Great.f k l) (greatS l) := by
  unfold millhandref23_Great.f greatS
  by_cases h : 60 < l.length
  · rw [decide_eq_true h, Bool.true_or]
    exact ev_pos (by omega) (Ev.now _)
  · rw [decide_eq_false h, Bool.false_or]
    have := dgreat_l0 l (by omega) l.length 0 (by omega)
    exact ev_neg (by omega) this
theorem dgreat_fit {l : List NodeT} (h : greatS l = false) : fitS l ∧ l.length ≤ 60 := by
  unfold greatS at h
  rw [Bool.or_eq_false_iff, decide_eq_false_iff_not, List.any_eq_false] at h
  refine ⟨⟨by omega, fun x hx => ?_⟩, by omega⟩
  have := h.2 x hx
  simp at this
  omega
theorem runAlive_ev : Ev (fun k => millhandlaw25_alive.f k) true := Ev.of millhandlaw25_alive.mono (k := 60) (by decide +kernel)
theorem rgreat_ev (id : Int) (key : ByteArray) (ns : List NodeT) (st : Int) (ts : List TaskT) : ∃ b, Ev (fun k => millhandref25_Great.f k id key ns st ts) b ∧ (b = false → greatS ns = false) := by
  unfold millhandref25_Great.f
  have hg := dgreat_ev ns
  cases hb : greatS ns with
  | true =>
    rw [hb] at hg
    exact ⟨true, Ev.bind hg (ev_pos rfl (Ev.now _)), fun h => by cases h⟩
  | false =>
    rw [hb] at hg
    by_cases h : (ts.length : Int) > 60
    · exact ⟨true, Ev.bind hg (ev_neg (by decide) (ev_pos h (Ev.now _))), fun _ => rfl⟩
    · exact ⟨_, Ev.bind hg (ev_neg (by decide) (ev_neg h (Ev.now _))), fun _ => rfl⟩
abbrev RunA := Int × ByteArray × List NodeT × Int × List TaskT × Int
def shutA : RunA := (0, ⟨#[]⟩, [], 0, [], 250)
section
variable (id : Int) (key : ByteArray) (ns : List NodeT) (st : Int) (ts : List TaskT) (i : Int)
theorem turn_shut (D : Nat → List Int → Int → Int → Int → Int → Int → Int → Int → Option (Int × Int × Int × Int × Int × Int)) (fit : Bool) (x : Int) (hc : Ev (fun k => run_Check.f k id key ns st ts) 0) (hs : ¬ st = 1) (h0 : 0 ≤ i) (h1 : i < (ts.length : Int)) :
    Ev (fun k => run_turn.f D k id key ns st ts i fit x) shutA := by
  unfold run_turn.f
  refine Ev.bind hc (ev_pos rfl (ev_neg (by omega) ?_))
  rw [decide_eq_false (by omega)]
  exact Ev.step (fun _ => run_turn.j0.eq_2 ..) (ev_neg (by decide) (ev_neg hs (Ev.now _)))
theorem RunShut_ev (a b : Int) : Ev (fun k => millhandlaw25_RunShut.f k id key ns st ts i a b) true := by
  unfold millhandlaw25_RunShut.f
  have hj : Ev (fun k => millhandlaw25_RunShut.j0 k i a b true true id key ns st ts) true := Ev.step (fun _ => millhandlaw25_RunShut.j0.eq_2 ..) (ev_pos rfl (Ev.now _))
  refine Ev.bind runAlive_ev ?_
  obtain ⟨g, hg, hfit⟩ := rgreat_ev id key ns st ts
  refine Ev.bind hg ?_
  cases g with
  | true => exact ev_pos rfl hj
  | false =>
    refine ev_neg (by decide) ?_
    obtain ⟨hf, h60⟩ := dgreat_fit (hfit rfl)
    have hx : ∀ x ∈ ns, x.f0.length ≤ 100000 := fun x hx => by
      have := hfit rfl
      unfold greatS at this
      rw [Bool.or_eq_false_iff, List.any_eq_false] at this
      have := this.2 x hx
      simp at this
      omega
    have hc := rchk_ev id key ns st ts hf hx
    refine Ev.bind hc ?_
    by_cases h0 : chkRun id key ns st ts = 0
    rotate_left
    · exact ev_neg h0 hj
    refine ev_pos h0 ?_
    rw [h0] at hc
    by_cases h1 : st = 1
    · exact ev_pos h1 hj
    by_cases h2 : i < 0
    · exact ev_neg h1 (ev_pos h2 hj)
    by_cases h3 : i ≥ (ts.length : Int)
    · exact ev_neg h1 (ev_neg h2 (ev_pos h3 hj))
    refine ev_neg h1 (ev_neg h2 (ev_neg h3 (Ev.step (fun _ => millhandlaw25_RunShut.j0.eq_2 ..) (ev_neg (by decide) ?_))))
    have T := fun D fit x => turn_shut id key ns st ts i D fit x hc h1 (by omega) (by omega)
    have e1 : Ev (fun k => run_Lease.f k id key ns st ts i a b) shutA := by unfold run_Lease.f; exact Ev.bind (T _ _ _) (Ev.now _)
    have e2 : Ev (fun k => run_Complete.f k id key ns st ts i a b) (0, ⟨#[]⟩, [], 0, [], 0, 250) := by
      unfold run_Complete.f
      have hr : Ev (fun _ => run_ranked.f b) (decide (0 ≤ b ∧ b ≤ 1099511627764)) := by
        unfold run_ranked.f
        by_cases hb : b ≥ 0
        · exact ev_pos hb (ev_some (decide_eq_decide.mpr (by omega)))
        · exact ev_neg hb (ev_some (decide_eq_false (by omega)).symm)
      exact Ev.bind hr (Ev.bind (T _ _ _) (ev_neg (by decide) (Ev.now _)))
    have e3 : Ev (fun k => run_Fail.f k id key ns st ts i a b) shutA := by unfold run_Fail.f; exact Ev.bind (T _ _ _) (Ev.now _)
    have e4 : Ev (fun k => run_Beat.f k id key ns st ts i a b) shutA := by unfold run_Beat.f; exact Ev.bind (T _ _ _) (Ev.now _)
    have e5 : Ev (fun k => run_Wake.f k id key ns st ts i a b) shutA := by unfold run_Wake.f; exact Ev.bind (T _ _ _) (Ev.now _)
    have e6 : Ev (fun k => run_Lapse.f k id key ns st ts i b) shutA := by unfold run_Lapse.f; exact Ev.bind (T _ _ _) (Ev.now _)
    have e7 : Ev (fun k => run_Cancel.f k id key ns st ts) shutA := by unfold run_Cancel.f; exact Ev.bind hc (ev_pos rfl (ev_neg h1 (Ev.now _)))
    exact Ev.bind e1 (Ev.bind e2 (Ev.bind e3 (Ev.bind e4 (Ev.bind e5 (Ev.bind e6 (Ev.bind e7 (ev_pos rfl (ev_pos rfl (ev_pos rfl (ev_pos rfl (ev_pos rfl (ev_pos rfl (Ev.now _)))))))))))))
end
theorem run_opened {w : World} {x : S29} {cs : Array Value} (h : k29.K w x cs.toList) : ∃ A2 c2 A4 c4, cs = #[.int .i64 x.f0, .string x.f1, .slice A2 x.f2.f0.length c2, .int .u8 x.f3, .slice A4 x.f4.length c4] ∧
    x.f2.f0.length ≤ c2 ∧ Kd.C k60 w A2 x.f2.f0.length x.f2.f0 ∧ x.f4.length ≤ c4 ∧ Kd.C k35 w A4 x.f4.length x.f4 := by
  obtain ⟨_, _, hcs, rfl, ⟨_, _, rfl, rfl, ⟨_, _, rfl, ⟨A2, c2, rfl, hle2, hC2⟩, ⟨_, _, rfl, rfl, ⟨A4, c4, rfl, hle4, hC4⟩⟩⟩⟩⟩ := h
  refine ⟨A2, c2, A4, c4, ?_, hle2, hC2, hle4, hC4⟩
  cases cs
  simpa using hcs
theorem RunShut_walk (w : World) (x0 : S29) (cs0 : Array Value) (r0 : k29.K w x0 cs0.toList) (g0_ : g29 x0) (a1 : Int) (g1_ : (Lit.int .i64 a1).wf = true) (a2 : Int) (g2_ : (Lit.int .i64 a2).wf = true) (a3 : Int) (g3_ : (Lit.int .i64 a3).wf = true) :
    Calls Try.prog 5 #[.agg cs0, .int .i64 a1, .int .i64 a2, .int .i64 a3] w fun e w' => e = .returned (.bool true) ∧ Below w.heap.size w w' := by
  obtain ⟨A2, c2, A4, c4, rfl, hle2, hC2, hle4, hC4⟩ := run_opened r0
  obtain ⟨k, h⟩ := (RunShut_ev x0.f0 x0.f1 x0.f2.f0 x0.f3 x0.f4 a1 a2 a3).rounds
  exact millhandlaw25_RunShut.calls k x0.f0 x0.f1 A2 c2 x0.f2.f0 x0.f3 A4 c4 x0.f4 a1 a2 a3 true w hC2 hle2 hC4 hle4 h rfl
end Go.Proofs.Ytbiphljdommacaa.R
