/- Opening an argument of whatever shape: what is read as data reads as a kind (Kd), with the bounds that the row's weights give. Over any program. -/
import Derived.Test.YtbiphljdommacaaWWords
import Derived.SizedLaws
import Derived.ChangeSlices
namespace Go.Proofs.Ytbiphljdommacaa.Opens
open Go.Proofs.YtbiphljdommacaaW.PrintWords
set_option linter.unusedVariables false

theorem add_add (a : Addr) (x y : Nat) : (a.add x).add y = a.add (x + y) := by
  unfold Addr.add
  by_cases hx : x = 0 <;> by_cases hy : y = 0 <;> simp [hx, hy, Nat.add_assoc]

theorem mapM_some {α β : Type} {f : α → Option β} : ∀ {l : List α} {ys : List β}, l.mapM f = some ys → ys.length = l.length ∧ ∀ (j : Nat) (x : α), l[j]? = some x → ∃ y, ys[j]? = some y ∧ f x = some y
  | [], ys, h => by
    simp at h
    subst h
    exact ⟨rfl, fun j x hx => by simp at hx⟩
  | x :: l, ys, h => by
    rw [List.mapM_cons] at h
    cases hx : f x with
    | none => simp [hx] at h
    | some y =>
      cases hl : l.mapM f with
      | none => simp [hx, hl] at h
      | some zs =>
        simp [hx, hl] at h
        subst h
        obtain ⟨h1, h2⟩ := mapM_some hl
        refine ⟨by simp [h1], fun j z hz => ?_⟩
        cases j with
        | zero =>
          simp at hz
          subst hz
          exact ⟨y, by simp, hx⟩
        | succ j =>
          simp at hz
          obtain ⟨q, hq, hf⟩ := h2 j z hz
          exact ⟨q, by simpa using hq, hf⟩

theorem cells_some {w : World} {base : Nat} {a : Addr} {n : Nat} {cs : List Value} (h : w.cells? base a n = some cs) : cs.length = n ∧ ∀ i u, cs[i]? = some u → w.cell? (a.add i) = some u := by
  unfold World.cells? at h
  split at h
  · obtain ⟨h1, h2⟩ := mapM_some h
    rw [List.length_range] at h1
    refine ⟨h1, fun i u hu => ?_⟩
    have hi : i < n := by have := (List.getElem?_eq_some_iff.1 hu).1; omega
    obtain ⟨y, hy, hf⟩ := h2 i i (by rw [List.getElem?_range hi])
    rw [hu] at hy
    injection hy with hy
    rw [hy]
    exact hf
  · cases h

/-- Choice over a list's places. -/
theorem list_choose {β : Type} (n : Nat) (P : Nat → β → Prop) (h : ∀ i, i < n → ∃ b, P i b) : ∃ xs : List β, xs.length = n ∧ ∀ i x, xs[i]? = some x → P i x := by
  induction n with
  | zero => exact ⟨[], rfl, fun i x hx => by simp at hx⟩
  | succ n ih =>
    obtain ⟨xs, hl, hx⟩ := ih (fun i hi => h i (by omega))
    obtain ⟨b, hb⟩ := h n (by omega)
    refine ⟨xs ++ [b], by simp [hl], fun i x hi => ?_⟩
    rcases Nat.lt_or_ge i xs.length with hlt | hge
    · rw [List.getElem?_append_left hlt] at hi
      exact hx i x hi
    · rw [List.getElem?_append_right hge] at hi
      have : i - xs.length = 0 := by
        have := (List.getElem?_eq_some_iff.1 hi).1
        simp at this
        omega
      rw [this] at hi
      simp at hi
      subst hi
      have : i = n := by omega
      subst this
      exact hb

/-- Whatever is read as data of type t, within the form's reach, reads as kind d, and what it reads as is G. -/
structure Opens {α : Type} (P : Program) (t : TypeId) (d : Kd α) (G : α → Prop) : Prop where
  sz : P.cellsOf t = d.sz
  op : ∀ {H : Type} (enc : TypeId × Value → H) (w : World) (spare : Nat → Bool) (held : Bool) (fuel : Nat) (cs : List Value) (x : DataW H × List MemPlace), DataW.trod enc P w 0 spare held fuel t cs = some x → (x.1.weights P t).all (· ≤ reachBytes) = true → ∃ a, d.K w a cs ∧ G a

theorem Opens.int {P : Program} {t : TypeId} {k : IntKind} (hu : P.underlying t = some (.int k)) (hs : P.cellsOf t = 1) : Opens P t (Kd.int k) (fun a => (Lit.int k a).wf = true) := by
  refine ⟨hs, fun enc w spare held fuel cs x h _ => ?_⟩
  cases fuel with
  | zero => simp [DataW.trod] at h
  | succ fuel =>
    unfold DataW.trod at h
    rw [hu] at h
    split at h <;> first | (simp at *; done) | skip
    rename_i k0 k' n heq
    simp at heq
    subst heq
    split at h
    · rename_i hk
      obtain ⟨rfl, hwf⟩ := hk
      exact ⟨n, rfl, hwf⟩
    · cases h

theorem Opens.bool {P : Program} {t : TypeId} (hu : P.underlying t = some .bool) (hs : P.cellsOf t = 1) : Opens P t Kd.bool (fun _ => True) := by
  refine ⟨hs, fun enc w spare held fuel cs x h _ => ?_⟩
  cases fuel with
  | zero => simp [DataW.trod] at h
  | succ fuel =>
    unfold DataW.trod at h
    rw [hu] at h
    split at h <;> first | (simp at *; done) | skip
    rename_i b heq
    exact ⟨b, rfl, trivial⟩

theorem Opens.string {P : Program} {t : TypeId} (hu : P.underlying t = some .string) (hs : P.cellsOf t = 1) : Opens P t Kd.string (fun s => s.size ≤ 140737488351232) := by
  refine ⟨hs, fun enc w spare held fuel cs x h hw => ?_⟩
  cases fuel with
  | zero => simp [DataW.trod] at h
  | succ fuel =>
    unfold DataW.trod at h
    rw [hu] at h
    split at h <;> first | (simp at *; done) | skip
    rename_i s heq
    split at h
    · simp at h
      subst h
      refine ⟨s, rfl, ?_⟩
      have hw2 := hw
      simp only [DataW.weights, List.all_cons, List.all_nil, Bool.and_true, decide_eq_true_eq, Array.length_toList] at hw2
      exact hw2
    · cases h

theorem weightsAll_at {H : Type} {P : Program} {e : TypeId} : ∀ {l : List (DataW H)} {d : DataW H}, (DataW.weightsAll P e l).all (· ≤ reachBytes) = true → d ∈ l → (d.weights P e).all (· ≤ reachBytes) = true
  | [], d, _, hd => by simp at hd
  | x :: l, d, h, hd => by
    unfold DataW.weightsAll at h
    rw [List.all_append, Bool.and_eq_true] at h
    rcases List.mem_cons.1 hd with rfl | hd
    · exact h.1
    · exact weightsAll_at h.2 hd

theorem weightsEach_at {H : Type} {P : Program} : ∀ {ts : List TypeId} {l : List (DataW H)} {j : Nat} {t : TypeId} {d : DataW H}, (DataW.weightsEach P ts l).all (· ≤ reachBytes) = true → ts[j]? = some t → l[j]? = some d → (d.weights P t).all (· ≤ reachBytes) = true
  | [], l, j, t, d, _, ht, _ => by simp at ht
  | _ :: _, [], j, t, d, _, _, hd => by simp at hd
  | t0 :: ts, x :: l, j, t, d, h, ht, hd => by
    unfold DataW.weightsEach at h
    rw [List.all_append, Bool.and_eq_true] at h
    cases j with
    | zero =>
      simp at ht hd
      subst ht hd
      exact h.1
    | succ j => exact weightsEach_at (j := j) h.2 (by simpa using ht) (by simpa using hd)

theorem Opens.slice {α : Type} {P : Program} {t e : TypeId} {d : Kd α} {G : α → Prop} (hu : P.underlying t = some (.slice e)) (hs : P.cellsOf t = 1) {B : Nat} (hB : P.bytesOf e = B) (he : Opens P e d G) :
    Opens P t (Kd.slice e d) (fun xs => xs.length * B ≤ 140737488351232 ∧ xs.length ≤ 9223372036854775807 ∧ ∀ x ∈ xs, G x) := by
  refine ⟨hs, fun enc w spare held fuel cs x h hw => ?_⟩
  cases fuel with
  | zero => simp [DataW.trod] at h
  | succ fuel =>
    unfold DataW.trod at h
    rw [hu] at h
    split at h <;> first | (simp at *; done) | skip
    · refine ⟨[], ⟨none, 0, rfl, Nat.le_refl _, ⟨rfl, Nat.zero_le _, fun h => absurd h (by simp)⟩⟩, by simp, by simp, by simp⟩
    · rename_i e0 a len cap heq
      simp at heq
      subst heq
      dsimp only at h
      split at h
      · rename_i hc
        obtain ⟨_, hlc, hcm⟩ := hc
        cases hm : (List.range len).mapM (fun i => (w.cells? 0 (a.add (i * P.cellsOf e)) (P.cellsOf e)).bind (DataW.trod enc P w 0 spare held fuel e)) with
        | none => simp [hm] at h
        | some elems =>
          rw [hm] at h
          simp only [Option.bind_some, Option.map_eq_some_iff] at h
          obtain ⟨rest, _, rfl⟩ := h
          obtain ⟨h1, h2⟩ := mapM_some hm
          rw [List.length_range] at h1
          simp only [DataW.weights, hu, List.all_cons, List.all_append, Bool.and_eq_true, decide_eq_true_eq] at hw
          obtain ⟨hw0, hw1, _⟩ := hw
          rw [hB] at hw0
          have key : ∀ i, i < len → ∃ b : α, (∃ c, c.length = d.sz ∧ d.K w b c ∧ ∀ j u, c[j]? = some u → w.cell? (a.add (i * d.sz + j)) = some u) ∧ G b := by
            intro i hi
            obtain ⟨y, hy, hf⟩ := h2 i i (by rw [List.getElem?_range hi])
            cases hcs : w.cells? 0 (a.add (i * P.cellsOf e)) (P.cellsOf e) with
            | none => simp [hcs] at hf
            | some c =>
              rw [hcs] at hf
              simp only [Option.bind_some] at hf
              obtain ⟨hcl, hcc⟩ := cells_some hcs
              have hmem : y.1 ∈ elems.map (·.1) := List.mem_map.2 ⟨y, List.mem_of_getElem? hy, rfl⟩
              obtain ⟨b, hb, hg⟩ := he.op enc w spare held fuel c y hf (weightsAll_at hw1 hmem)
              refine ⟨b, ⟨c, by rw [hcl, he.sz], hb, fun j u hj => ?_⟩, hg⟩
              have := hcc j u hj
              rw [add_add, he.sz] at this
              exact this
          obtain ⟨xs, hxl, hxs⟩ := list_choose len _ key
          have hlm : len ≤ 9223372036854775807 := by unfold maxLen at hcm; omega
          refine ⟨xs, ⟨some a, cap, by rw [hxl], by omega, ⟨rfl, by omega, fun _ => ⟨a, rfl, fun j p hp => (hxs j p hp).1⟩⟩⟩, ?_, by omega, ?_⟩
          · rw [hxl]
            refine Nat.le_trans ?_ hw0
            rw [List.length_map, List.length_map, h1]
            exact Nat.mul_le_mul_right _ (by omega)
          · intro x hx
            obtain ⟨j, hj⟩ := List.getElem?_of_mem hx
            exact (hxs j x hj).2
      · cases h

/-! Structs: two fields at a time, by the fields' list. -/
/-- The fields fs of a struct, from cell o on, read as d (of all the cells behind o). -/
structure OpensF {α : Type} (P : Program) (fs : List (TypeId × Nat)) (o : Nat) (d : Kd α) (G : α → Prop) : Prop where
  op : ∀ {H : Type} (enc : TypeId × Value → H) (w : World) (spare : Nat → Bool) (held : Bool) (fuel : Nat) (cs : List Value) (xs : List (DataW H × List MemPlace)), cs.length = o + d.sz →
    fs.mapM (fun f => DataW.trod enc P w 0 spare held fuel f.1 ((cs.drop f.2).take (P.cellsOf f.1))) = some xs → (DataW.weightsEach P (fs.map (·.1)) (xs.map (·.1))).all (· ≤ reachBytes) = true → ∃ a, d.K w a (cs.drop o) ∧ G a

theorem OpensF.one {α : Type} {P : Program} {t : TypeId} {o : Nat} {d : Kd α} {G : α → Prop} (h : Opens P t d G) : OpensF P [(t, o)] o d G := by
  refine ⟨fun enc w spare held fuel cs xs hl hm hw => ?_⟩
  rw [List.mapM_cons] at hm
  cases hx : DataW.trod enc P w 0 spare held fuel t ((cs.drop o).take (P.cellsOf t)) with
  | none => simp [hx] at hm
  | some y =>
    simp [hx] at hm
    subst hm
    simp [DataW.weightsEach] at hw
    rw [List.take_of_length_le (by rw [List.length_drop, h.sz]; omega)] at hx
    exact h.op enc w spare held fuel _ y hx (by simpa using hw)

theorem OpensF.more {α β : Type} {P : Program} {t : TypeId} {o : Nat} {d : Kd α} {G : α → Prop} {fs : List (TypeId × Nat)} {d2 : Kd β} {G2 : β → Prop} (h : Opens P t d G) (h2 : OpensF P fs (o + d.sz) d2 G2) : OpensF P ((t, o) :: fs) o (Kd.pair d d2) (fun x => G x.1 ∧ G2 x.2) := by
  refine ⟨fun enc w spare held fuel cs xs hl hm hw => ?_⟩
  have hl' : cs.length = o + (d.sz + d2.sz) := hl
  rw [List.mapM_cons] at hm
  cases hx : DataW.trod enc P w 0 spare held fuel t ((cs.drop o).take (P.cellsOf t)) with
  | none => simp [hx] at hm
  | some y =>
    cases hr : fs.mapM (fun f => DataW.trod enc P w 0 spare held fuel f.1 ((cs.drop f.2).take (P.cellsOf f.1))) with
    | none => simp [hx, hr] at hm
    | some ys =>
      simp [hx, hr] at hm
      subst hm
      simp only [List.map_cons, DataW.weightsEach, List.all_append, Bool.and_eq_true] at hw
      obtain ⟨a, ha, hg⟩ := h.op enc w spare held fuel _ y hx hw.1
      obtain ⟨b, hb, hg2⟩ := h2.op enc w spare held fuel cs ys (by omega) hr hw.2
      refine ⟨(a, b), ⟨(cs.drop o).take (P.cellsOf t), cs.drop (o + d.sz), ?_, ha, hb⟩, hg, hg2⟩
      rw [h.sz, ← List.drop_drop, List.take_append_drop]

theorem Opens.struct {α β : Type} {P : Program} {t : TypeId} {fs : Array Field} {fl : List (TypeId × Nat)} {d : Kd α} {G : α → Prop} (f : β → α) (g : α → β) (hfg : ∀ a, f (g a) = a) (hu : P.underlying t = some (.struct fs)) (hfl : fs.toList.map (fun f => (f.type, f.offset)) = fl) (hs : P.cellsOf t = d.sz) (h : OpensF P fl 0 d G) :
    Opens P t (Kd.iso d f) (fun x => G (f x)) := by
  refine ⟨hs, fun enc w spare held fuel cs x hx hw => ?_⟩
  cases fuel with
  | zero => simp [DataW.trod] at hx
  | succ fuel =>
    unfold DataW.trod at hx
    rw [hu] at hx
    split at hx <;> first | (simp at *; done) | skip
    rename_i cs _ _ fs0 heq
    simp at heq
    subst heq
    split at hx
    · rename_i hl
      simp only [Option.map_eq_some_iff] at hx
      obtain ⟨xs, hm, rfl⟩ := hx
      have hm2 : fl.mapM (fun f => DataW.trod enc P w 0 spare held fuel f.1 ((cs.drop f.2).take (P.cellsOf f.1))) = some xs := by
        rw [← hfl, List.mapM_map]
        exact hm
      have hw2 : (DataW.weightsEach P (fl.map (·.1)) (xs.map (·.1))).all (· ≤ reachBytes) = true := by
        rw [← hfl, List.map_map]
        simp only [DataW.weights, hu] at hw
        exact hw
      obtain ⟨a, ha, hg⟩ := h.op enc w spare held fuel cs xs (by omega) hm2 hw2
      rw [List.drop_zero] at ha
      refine ⟨g a, ?_, by simpa only [hfg] using hg⟩
      show d.K w (f (g a)) cs
      rw [hfg]
      exact ha
    · cases hx

/-- An argument of a law: its cells, and what they read as. -/
theorem Opens.arg {α : Type} {P : Program} {t : TypeId} {d : Kd α} {G : α → Prop} (h : Opens P t d G) {H : Type} {enc : TypeId × Value → H} {w : World} {spare : Nat → Bool} {held : Bool} {v : Value} {x : DataW H} {ps : List MemPlace} {ts : List TypeId} {ds : List (DataW H)} {j : Nat}
    (hr : DataW.Trod enc P w 0 spare held t v x ps) (hsz : (DataW.weightsEach P ts ds).all (· ≤ reachBytes) = true) (ht : ts[j]? = some t) (hd : ds[j]? = some x) : ∃ a, d.K w a v.cells.toList ∧ G a := by
  obtain ⟨fuel, hf⟩ := hr
  exact h.op enc w spare held fuel _ _ hf (weightsEach_at hsz ht hd)

end Go.Proofs.Ytbiphljdommacaa.Opens
