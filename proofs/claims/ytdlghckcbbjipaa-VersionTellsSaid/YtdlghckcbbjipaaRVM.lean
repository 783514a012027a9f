/- A set of texts that a call makes: a map from texts to bools, each true. -/
import Derived.Test.YtdlghckcbbjipaaRx0
import Derived.Maps.Views
import Derived.Maps.OwnOps
import Derived.StringKeys
import Derived.Carry
namespace Go.Proofs.Ytdlghckcbbjipaa.R
open Go.RowKit Go.Proofs.YtdlghckcbbjipaaW.PrintWords Go.Proofs.YtdlghckcbbjipaaW.PrintLast Go.Proofs.YtdlghckcbbjipaaW.PrintMore Go.Maps Go.WideMaps
set_option linter.unusedVariables false
set_option linter.unusedSimpArgs false
/-- Is a text one of some? -/
def inS (names : List ByteArray) (s : ByteArray) : Bool := names.any fun x => decide (x.data.toList = s.data.toList)
theorem inS_cons (x : ByteArray) (names : List ByteArray) (s : ByteArray) : inS (x :: names) s = (decide (x.data.toList = s.data.toList) || inS names s) := rfl
theorem key9 : Keyed Try.prog 9 := string_keyed Try.underlying9
theorem zero4 (w : World) : (zeroValue 4).run Try.prog w = .ok (.bool false) w := by kernel_rfl
/-- Block B holds just these texts. -/
def SetM (W : World) (B : Nat) (names : List ByteArray) : Prop :=
  ∃ (n : Nat) (D : DataW Unit), W.ownsMap Try.prog 9 (plainElem Try.prog 4) B n D ∧ n ≤ names.length ∧ ∀ s : ByteArray, D.atKey (.string s.data.toList) (.lit (.bool false)) = .lit (.bool (inS names s))
theorem plainElem_bool_inv {e : TypeId} (he : Try.prog.underlying e = some .bool) {v : Value} {z : DataW Unit × List MemPlace} (h : plainElem Try.prog e v = some z) : ∃ a, v = .bool a ∧ z = (.lit (.bool a), []) := by
  unfold plainElem at h
  rw [he] at h
  cases v <;> simp at h
  subst h
  exact ⟨_, rfl, rfl⟩
theorem SetM.made (w : World) : SetM (w.alloc (.map #[] 0)) w.heap.size [] :=
  ⟨0, .map [], World.ownsMap_made w Try.prog 9 _, Nat.le_refl _, fun s => rfl⟩
theorem SetM.lt {W : World} {B : Nat} {names : List ByteArray} (h : SetM W B names) : B < W.heap.size := by
  obtain ⟨n, D, hown, _, _⟩ := h
  exact hown.lt
theorem SetM.grown {W W2 : World} {B : Nat} {names : List ByteArray} (h : SetM W B names) {row : Option Nat} (hg : W.grownBy W2 row) (hne : some B ≠ row) : SetM W2 B names := by
  obtain ⟨n, D, hown, hn, hD⟩ := h
  exact ⟨n, D, hown.kept hg hne, hn, hD⟩
theorem SetM.below {W W2 : World} {B : Nat} {names : List ByteArray} (h : SetM W B names) (hb : Below W.heap.size W W2) : SetM W2 B names := h.grown (grown_of_below hb none) (by simp)
theorem SetM.far {W : World} {B : Nat} {names : List ByteArray} (h : SetM W B names) {p : Addr} (hp : B ≠ p.block) (u : Value) : SetM (W.setCell p u) B names := by
  obtain ⟨n, D, hown, hn, hD⟩ := h
  refine ⟨n, D, ?_, hn, hD⟩
  obtain ⟨es, clock, hb, r⟩ := hown
  exact ⟨es, clock, by rw [RowKit.Below.heap_setCell _ _ _ _ hp]; exact hb, r⟩
theorem SetM.look {W : World} {B : Nat} {names : List ByteArray} (h : SetM W B names) (s : ByteArray) (hs : s.size ≤ 1000000) :
    (Instr.lookup 85 (.map (some B)) (.string s) false).run Try.prog W = .ok (.bool (inS names s)) W := by
  obtain ⟨n, D, hown, hn, hD⟩ := h
  obtain ⟨v, ps, hrun, hv⟩ := hown.lookup key9 Try.underlying85 (zero4 W) (plainElem_bool Try.underlying4 false) (keyOf_string_mk Try.underlying9 (s := s) (by unfold maxLen; omega))
  obtain ⟨a, rfl, hz⟩ := plainElem_bool_inv Try.underlying4 hv
  rw [hrun]
  have := (congrArg Prod.fst hz).symm.trans (hD s)
  simp only [DataW.lit.injEq, Lit.bool.injEq] at this
  rw [this]
theorem SetM.put {W : World} {B : Nat} {names : List ByteArray} (h : SetM W B names) (s : ByteArray) (hs : s.size ≤ 1000000) (hn : names.length ≤ 1000000) :
    ∃ W', (Instr.mapUpdate 85 (.map (some B)) (.string s) (.bool true)).run Try.prog W = .ok () W' ∧ SetM W' B (s :: names) ∧ W.grownBy W' (some B) := by
  obtain ⟨n, D, hown, hle, hD⟩ := h
  have hkey := keyOf_string_mk (P := Try.prog) Try.underlying9 (s := s) (by unfold maxLen; omega)
  obtain ⟨W', hrun, r1, r2⟩ := hown.update key9 Try.underlying85 (by unfold maxLen; omega) hkey (plainElem_bool Try.underlying4 true)
  refine ⟨W', hrun, ⟨n + 1, _, r1, by simp only [List.length_cons]; omega, fun t => ?_⟩, r2⟩
  have hmap : IsMap D := by
    obtain ⟨es, clock, _, _, _, rfl⟩ := hown
    exact ⟨_, rfl⟩
  rw [inS_cons]
  by_cases e : s.data.toList = t.data.toList
  · have h1 := atKey_put_same (k := .string s.data.toList) hmap (show WideAt.IsKeyLit (.string s.data.toList) from trivial) (.lit (.bool true)) (.lit (.bool false))
    rw [e] at h1
    rw [e, decide_eq_true rfl, Bool.true_or]
    exact h1
  · have hne : (Lit.string t.data.toList) ≠ .string s.data.toList := fun h => e (Lit.string.inj h).symm
    rw [atKey_put_other hne, hD t, decide_eq_false e, Bool.false_or]
theorem wpList_insert_set {ops : Array Oper} {rest : List Oper} {o : Oper} {a : Act} {Q : Exit → Act → World → Prop} {W : World} (hg : o.guard = none) (m x v : Operand) (hop : o.op = Op.insert 85 m x v) (B : Nat) (names : List ByteArray) (s : ByteArray)
    (hm : a.eval m = .map (some B)) (hx : a.eval x = .string s) (hv : a.eval v = .bool true) (h : SetM W B names) (hs : s.size ≤ 1000000) (hn : names.length ≤ 1000000)
    (hK : ∀ W', SetM W' B (s :: names) → W.grownBy W' (some B) → wpList Try.prog ops Q rest (a.put o.dst undef) W') : wpList Try.prog ops Q (o :: rest) a W := by
  refine wpList_plain hg fun K' hK' => ?_
  obtain ⟨W', hrun, r1, r2⟩ := h.put s hs hn
  unfold Oper.wp
  simp [execOp, hop, hm, hx, hv, hrun, Result.andThen]
  exact hK' _ _ (hK W' r1 r2)
theorem wpList_update_set {ops : Array Oper} {rest : List Oper} {o : Oper} {a : Act} {Q : Exit → Act → World → Prop} {W : World} (hg : o.guard = none) (m x v : Operand) (hop : o.op = Op.mapUpdate 85 m x v) (B : Nat) (names : List ByteArray) (s : ByteArray)
    (hm : a.eval m = .map (some B)) (hx : a.eval x = .string s) (hv : a.eval v = .bool true) (h : SetM W B names) (hs : s.size ≤ 1000000) (hn : names.length ≤ 1000000)
    (hK : ∀ W', SetM W' B (s :: names) → W.grownBy W' (some B) → wpList Try.prog ops Q rest (a.put o.dst undef) W') : wpList Try.prog ops Q (o :: rest) a W := by
  refine wpList_plain hg fun K' hK' => ?_
  obtain ⟨W', hrun, r1, r2⟩ := h.put s hs hn
  unfold Oper.wp
  simp [execOp, hop, hm, hx, hv, hrun, Result.andThen]
  exact hK' _ _ (hK W' r1 r2)
end Go.Proofs.Ytdlghckcbbjipaa.R
