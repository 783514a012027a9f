/- Contracts of Go functions and what they come to, over the translation of this seat: made by a program of this session (print2.py). -/
import Derived.Test.YtpalnbdcemmlnaaRx0
import Derived.Test.YtpalnbdcemmlnaaRx4
import Derived.Test.YtpalnbdcemmlnaaRx5
import Derived.Test.YtpalnbdcemmlnaaRx6
import Derived.Test.YtpalnbdcemmlnaaRx7
import Derived.Test.YtpalnbdcemmlnaaRx8
namespace Go.Proofs.Ytpalnbdcemmlnaa.R
open Go.RowKit Go.Proofs.Ytpalnbdcemmlnaa.Co Go.Proofs.Ytpalnbdcemmlnaa.Ret Go.Proofs.Ytpalnbdcemmlnaa.Plain Go.Proofs.Ytpalnbdcemmlnaa.Box Go.Proofs.YtpalnbdcemmlnaaW.PrintWords Go.Proofs.YtpalnbdcemmlnaaW.PrintLast Go.Proofs.YtpalnbdcemmlnaaW.PrintMore
attribute [local go_sem] max2_int min2_int max_two min_two max_three min_three max_four min_four   -- for this text's walks alone
set_option linter.unusedVariables false
set_option linter.unusedSimpArgs false

/-! ### millhandref12_Read: function 12 -/
/-- Where a number's last byte stands, from place i on. -/
def stopAt : Nat → List Int → Nat
 | i, [] => i
 | i, x :: t => if i < 10 ∧ 128 ≤ x then stopAt (i + 1) t else i
/-- The number that some bytes make. -/
def valS : List Int → Nat
 | [] => 0
 | x :: t => (x % 128).toNat + 128 * valS t
theorem stopAt_ge : ∀ (t : List Int) (i : Nat), i ≤ stopAt i t ∧ stopAt i t ≤ i + t.length
 | [], i => by simp [stopAt]
 | x :: t, i => by
  unfold stopAt
  have := stopAt_ge t (i + 1)
  simp only [List.length_cons]
  split <;> omega
/-- Reading, by where it stops. -/
theorem rd1_stop : ∀ (t : List Int) (i : Nat), i ≤ 9 → (∀ x ∈ t, 0 ≤ x ∧ x ≤ 255) →
  rd1 i t = if h : stopAt i t - i < t.length then (if 10 ≤ stopAt i t ∨ (stopAt i t = 9 ∧ 1 < t[stopAt i t - i]) ∨ (0 < stopAt i t ∧ t[stopAt i t - i] = 0) then none else some (valS (t.take (stopAt i t - i + 1)), stopAt i t - i + 1)) else none
 | [], i, hi, hb => by simp [rd1]
 | x :: t, i, hi, hb => by
  have hx := hb x (by simp)
  have hg := stopAt_ge t (i + 1)
  rw [rd1, stopAt]
  by_cases h128 : x < 128
  ·
   rw [if_neg (show ¬ (i < 10 ∧ 128 ≤ x) by omega), dif_pos (by simp)]
   simp only [Nat.sub_self, List.getElem_cons_zero, Nat.zero_add, List.take_succ_cons, List.take_zero]
   by_cases h9 : i = 9 ∧ 1 < x
   ·
    rw [if_pos h9, if_pos (by omega)]
   ·
    rw [if_neg h9, if_pos h128]
    by_cases h0 : x = 0 ∧ 0 < i
    ·
     rw [if_pos h0, if_pos (by omega)]
    ·
     rw [if_neg h0, if_neg (by omega)]
     simp only [valS]
     congr 2
     omega
  ·
   rw [if_pos (show i < 10 ∧ 128 ≤ x by omega)]
   by_cases h9 : i = 9
   ·
    rw [if_pos (by omega)]
    subst h9
    split
    ·
     rw [if_pos (by omega)]
    ·
     rfl
   ·
    rw [if_neg (by omega), if_neg h128, rd1_stop t (i + 1) (by omega) (fun y hy => hb y (List.mem_cons_of_mem _ hy))]
    by_cases hlt : stopAt (i + 1) t - (i + 1) < t.length
    ·
     have e : stopAt (i + 1) t - i = (stopAt (i + 1) t - (i + 1)) + 1 := by omega
     rw [dif_pos hlt, dif_pos (by simp only [List.length_cons]; omega)]
     simp only [e, List.getElem_cons_succ, List.take_succ_cons]
     split
     ·
      rfl
     ·
      simp only [Option.map_some, valS]
      congr 2
      omega
    ·
     rw [dif_neg hlt, dif_neg (by simp only [List.length_cons]; omega)]
     rfl
theorem ref01_Read_l0 (l : List Int) (hl : l.length < 9223372036854775807) : ∀ (d i : Nat) (r : Int × Int × Int), i + d = l.length → Ev (fun k => millhandref01_Read.j1 k l ((stopAt i (l.drop i) : Nat) : Int)) r → Ev (fun k => millhandref01_Read.l0 k l (i : Int)) r
 | 0, i, r, h, hr => by
  rw [List.drop_of_length_le (by omega)] at hr
  exact Ev.step (fun _ => millhandref01_Read.l0.eq_2 ..) (ev_neg (by omega) hr)
 | d + 1, i, r, h, hr => by
  have hlt : i < l.length := by omega
  rw [List.drop_eq_getElem_cons hlt, stopAt] at hr
  refine Ev.step (fun _ => millhandref01_Read.l0.eq_2 ..) (ev_pos (by omega) ?_)
  by_cases h10 : i < 10
  ·
   refine ev_pos (by omega) (ev_pos (by omega) ?_)
   rw [rd_nat l i hlt]
   by_cases h128 : 128 ≤ l[i]
   ·
    rw [if_pos ⟨h10, h128⟩] at hr
    refine ev_pos (by omega) ?_
    rw [w64 (by omega) (by omega)]
    exact ref01_Read_l0 l hl d (i + 1) r (by omega) hr
   ·
    rw [if_neg (by omega)] at hr
    exact ev_neg (by omega) hr
  ·
   rw [if_neg (by omega)] at hr
   exact ev_neg (by omega) hr
/-- The number of bytes from place j on stays below what is left of 64 bits. -/
theorem valS_lt : ∀ (p : List Int) (e : Nat), p.length ≤ e + 1 → (∀ h : p.length = e + 1, p[e] % 128 ≤ 1) → valS p < 2 * 128 ^ e
 | [], e, _, _ => by
  have : 0 < 128 ^ e := Nat.pow_pos (by decide)
  simp only [valS]
  omega
 | x :: t, 0, h, h9 => by
  have h1 := h9 (by simp only [List.length_cons] at h ⊢; omega)
  have ht : t = [] := List.eq_nil_of_length_eq_zero (by simp only [List.length_cons] at h; omega)
  subst ht
  simp only [List.getElem_cons_zero] at h1
  simp only [valS]
  omega
 | x :: t, e + 1, h, h9 => by
  have ih := valS_lt t e (by simp only [List.length_cons] at h; omega) (fun he => by
   have := h9 (by simp only [List.length_cons]; omega)
   simpa only [List.getElem_cons_succ] using this)
  simp only [valS]
  rw [Nat.pow_succ]
  omega
theorem ref01_Read_l1 (l : List Int) (s : Nat) (hs : s < l.length) (hs9 : s ≤ 9) (h9 : s = 9 → l[s] % 128 ≤ 1) (hb : ∀ x ∈ l, 0 ≤ x ∧ x ≤ 255) : ∀ (j : Nat), j ≤ s + 1 → Ev (fun k => millhandref01_Read.l1 k l (s : Int) ((valS ((l.take (s + 1)).drop j) : Nat) : Int) ((j : Int) - 1)) (((valS (l.take (s + 1)) : Nat) : Int), ((s + 1 : Nat) : Int), 0)
 | 0, hj => by
  refine Ev.step (fun _ => millhandref01_Read.l1.eq_2 ..) (ev_neg (by omega) (ev_some ?_))
  rw [w64 (by omega) (by omega)]
  simp
 | j + 1, hj => by
  have hlt : j < l.length := by omega
  have hlt2 : j < (l.take (s + 1)).length := by rw [List.length_take]; omega
  have hx := hb _ (List.getElem_mem hlt)
  refine Ev.step (fun _ => millhandref01_Read.l1.eq_2 ..) (ev_pos (by omega) (ev_pos (by omega) (ev_pos (by omega) ?_)))
  have hv : valS ((l.take (s + 1)).drop j) < 2 * 128 ^ (9 - j) := valS_lt _ _ (by rw [List.length_drop, List.length_take]; omega) (fun he => by
   rw [List.length_drop, List.length_take] at he
   have hs9' : s = 9 := by omega
   have : ((l.take (s + 1)).drop j)[9 - j]'(by rw [List.length_drop, List.length_take]; omega) = l[s] := by
    rw [List.getElem_drop, List.getElem_take]
    congr 1
    omega
   rw [this]
   exact h9 hs9')
  have hb2 : 2 * 128 ^ (9 - j) ≤ 18446744073709551616 := by
   have h1 : (128 : Nat) ^ (9 - j) ≤ 128 ^ 9 := Nat.pow_le_pow_right (by decide) (by omega)
   have e : (128 : Nat) ^ 9 = 9223372036854775808 := by decide
   omega
  have e1 : valS ((l.take (s + 1)).drop j) = (l[j] % 128).toNat + 128 * valS ((l.take (s + 1)).drop (j + 1)) := by
   rw [List.drop_eq_getElem_cons hlt2, valS, List.getElem_take]
  have e2 : ((j + 1 : Nat) : Int) - 1 = (j : Int) := by omega
  have a1 : IntKind.u64.wrap (((valS ((l.take (s + 1)).drop (j + 1)) : Nat) : Int) * 128) = ((valS ((l.take (s + 1)).drop (j + 1)) : Nat) : Int) * 128 := u64w_in (by omega) (by omega)
  have a2 : IntKind.u64.wrap (l[j] % 128) = l[j] % 128 := u64w_in (by omega) (by omega)
  rw [e2, rd_nat l j hlt, Int.tmod_eq_emod_of_nonneg hx.1, a1, a2, u64w_in (by omega) (by omega), w64 (by omega) (by omega)]
  have ih := ref01_Read_l1 l s hs hs9 h9 hb j (by omega)
  rw [e1] at ih
  have e3 : ((valS ((l.take (s + 1)).drop (j + 1)) : Nat) : Int) * 128 + l[j] % 128 = (((l[j] % 128).toNat + 128 * valS ((l.take (s + 1)).drop (j + 1)) : Nat) : Int) := by omega
  rw [e3]
  exact ih
theorem ref01_Read_ev (l : List Int) (hl : l.length < 9223372036854775807) (hb : ∀ x ∈ l, 0 ≤ x ∧ x ≤ 255) : Ev (fun k => millhandref01_Read.f k l) (readS l) := by
 unfold millhandref01_Read.f
 refine ref01_Read_l0 l hl l.length 0 _ (by omega) ?_
 rw [List.drop_zero]
 have hg := stopAt_ge l 0
 have hrd := rd1_stop l 0 (by omega) hb
 simp only [Nat.sub_zero] at hrd
 have bad : ∀ (r : Int × Int × Int), r = (0, 0, 8) → Ev (fun k => millhandref01_Read.j2 k l ((stopAt 0 l : Nat) : Int) true) r := fun r hr => Ev.step (fun _ => millhandref01_Read.j2.eq_2 ..) (ev_pos rfl (ev_some hr.symm))
 refine Ev.step (fun _ => millhandref01_Read.j1.eq_2 ..) ?_
 by_cases h1 : stopAt 0 l < l.length
 ·
  rw [dif_pos h1] at hrd
  refine ev_neg (by omega) ?_
  by_cases h10 : 10 ≤ stopAt 0 l
  ·
   rw [if_pos (by omega)] at hrd
   refine ev_pos (by omega) (bad _ ?_)
   unfold readS; rw [hrd]
  ·
   refine ev_neg (by omega) ?_
   have hr := rd_nat l (stopAt 0 l) h1
   have good : ¬ (10 ≤ stopAt 0 l ∨ (stopAt 0 l = 9 ∧ 1 < l[stopAt 0 l]) ∨ (0 < stopAt 0 l ∧ l[stopAt 0 l] = 0)) → Ev (fun k => millhandref01_Read.j2 k l ((stopAt 0 l : Nat) : Int) false) (readS l) := by
    intro hn
    rw [if_neg hn] at hrd
    refine Ev.step (fun _ => millhandref01_Read.j2.eq_2 ..) (ev_neg (by simp) ?_)
    have hx := hb _ (List.getElem_mem h1)
    have := ref01_Read_l1 l (stopAt 0 l) h1 (by omega) (fun h => by
     have : ¬ 1 < l[stopAt 0 l] := fun h' => hn (.inr (.inl ⟨h, h'⟩))
     omega) hb (stopAt 0 l + 1) (Nat.le_refl _)
    rw [List.drop_of_length_le (by rw [List.length_take]; omega)] at this
    have e : ((stopAt 0 l + 1 : Nat) : Int) - 1 = ((stopAt 0 l : Nat) : Int) := by omega
    rw [e] at this
    refine ev_eq this ?_
    unfold readS; rw [hrd]
   have tail : (¬ (stopAt 0 l = 9 ∧ 1 < l[stopAt 0 l])) → Ev (fun n => if ((stopAt 0 l : Nat) : Int) > 0 then (if 0 ≤ ((stopAt 0 l : Nat) : Int) then (if ((stopAt 0 l : Nat) : Int) < (l.length : Int) then millhandref01_Read.j2 n l ((stopAt 0 l : Nat) : Int) ((rd l ((stopAt 0 l : Nat) : Int)) == 0) else none) else none) else millhandref01_Read.j2 n l ((stopAt 0 l : Nat) : Int) false) (readS l) := by
    intro h9
    by_cases h0 : 0 < stopAt 0 l
    ·
     refine ev_pos (by omega) (ev_pos (by omega) (ev_pos (by omega) ?_))
     rw [hr]
     by_cases hz : l[stopAt 0 l] = 0
     ·
      rw [beq_iff_eq.2 hz]
      rw [if_pos (by omega)] at hrd
      refine bad _ ?_
      unfold readS; rw [hrd]
     ·
      rw [beq_eq_false_iff_ne.2 hz]
      exact good (by omega)
    ·
     exact ev_neg (by omega) (good (by omega))
   by_cases h9 : stopAt 0 l = 9
   ·
    have hr9 : rd l 9 = l[stopAt 0 l] := by rw [← hr, h9]; rfl
    refine ev_pos (by omega) (ev_pos (by omega) ?_)
    rw [hr9]
    by_cases hb1 : 1 < l[stopAt 0 l]
    ·
     rw [if_pos (by omega)] at hrd
     refine ev_pos hb1 (bad _ ?_)
     unfold readS; rw [hrd]
    ·
     exact ev_neg hb1 (tail (by omega))
   ·
    exact ev_neg (by omega) (tail (by omega))
 ·
  rw [dif_neg h1] at hrd
  refine ev_pos (by omega) (bad _ ?_)
  unfold readS; rw [hrd]


/-! ### the document's reader -/
theorem Number_calls (g : Nat) (A : Option Addr) (c : Nat) (l : List Int) (bad : Bool) (most : Int) (w : World) (hb : RSt 59 w g A l.length c bad) (hr : Kd.C (Kd.int .u8) w A l.length l) (hc : l.length ≤ c) (hl : l.length ≤ 140737488351232) (hy : ∀ x ∈ l, 0 ≤ x ∧ x ≤ 255) (hm0 : 0 ≤ most) (hm1 : most < 9223372036854775808) :
  Calls Try.prog 29 #[.pointer (some ⟨g, 0, none⟩), .int .u64 most] w fun e w' => e = .returned (.int .u64 (numS most l bad).1) ∧ RAfter 59 w g A l (numS most l bad).2.1 (numS most l bad).2.2 w' := by
 obtain ⟨k1, hk1⟩ := (ref01_Read_ev l (by omega) hy).rounds
 have hcell := hb.c0
 have HR := Aside0.mk hr
 have HB := Aside0.mk hb
 have HYY := Aside0.mk hy
 clear hr hb hy
 cases hp : rd1 0 l with
 | none =>
  have hs : numS most l bad = (0, l, true) := by unfold numS; rw [hp]
  rw [hs]
  have HK := Aside0.mk (show millhandref01_Read.f k1 l = some (0, 0, 8) by rw [hk1]; unfold readS; rw [hp])
  clear hk1 hs hp
  go_enter Try.func29, Try.ntmps29
  go_wp2_with fail
  refine (millhandref01_Read.calls k1 A c l 0 0 8 _ HR.out hc HK.out).mono ?_
  rintro e w1 ⟨rfl, hb1⟩
  have HB1 := Aside0.mk (HB.out.below hb1)
  have HL := Aside0.mk hb1
  have hcell1 := HB1.out.c1
  have hfr1 := HB1.out.fr 1
  clear hb1 hcell
  go_wp2
  go_ret
  exact ⟨rfl, A, c, HB1.out.set1 true, fun _ h => h, hc, grown_none HL.out (grownBy_cell _ _ _ _)⟩
 | some p =>
  obtain ⟨pv, pn⟩ := p
  have hpl := rd1_len hp
  have hpv : (pv : Int) < 18446744073709551616 := by
   have := (rd1_only0 HYY.out hp).2.1
   omega
  dsimp only at hpl
  have HK := Aside0.mk (show millhandref01_Read.f k1 l = some ((pv : Int), (pn : Int), 0) by rw [hk1]; unfold readS; rw [hp])
  by_cases hbig : most < (pv : Int)
  ·
   have hs : numS most l bad = (0, l, true) := by unfold numS; rw [hp]; exact if_pos hbig
   rw [hs]
   have c2 : decide (most < (pv : Int)) = true := decide_eq_true hbig
   clear hk1 hs hp
   go_enter Try.func29, Try.ntmps29
   go_wp2_with fail
   refine (millhandref01_Read.calls k1 A c l _ _ _ _ HR.out hc HK.out).mono ?_
   rintro e w1 ⟨rfl, hb1⟩
   have HB1 := Aside0.mk (HB.out.below hb1)
   have HL := Aside0.mk hb1
   have hcell1 := HB1.out.c1
   have hfr1 := HB1.out.fr 1
   clear hb1 hcell
   go_wp2
   go_ret
   exact ⟨rfl, A, c, HB1.out.set1 true, fun _ h => h, hc, grown_none HL.out (grownBy_cell _ _ _ _)⟩
  ·
   have hs : numS most l bad = ((pv : Int), l.drop pn, bad) := by unfold numS; rw [hp]; exact if_neg hbig
   rw [hs]
   have c2 : decide (most < (pv : Int)) = false := decide_eq_false hbig
   obtain ⟨l1, hl1⟩ : ∃ l1, l1 = l.drop pn := ⟨_, rfl⟩
   obtain ⟨A1, hA1⟩ : ∃ A1, A1 = (if c = pn then A else A.map (·.add (pn * 1))) := ⟨_, rfl⟩
   obtain ⟨c1, hc1⟩ : ∃ c1, c1 = c - pn := ⟨_, rfl⟩
   have hl1n : l1.length = l.length - pn := by rw [hl1, List.length_drop]
   have HC1 : Aside0 (∀ W : World, Kd.C (Kd.int .u8) W A l.length l → Kd.C (Kd.int .u8) W A1 l1.length l1) := ⟨fun W h => by rw [hA1, hl1]; exact Kd.C_drop h hpl.2 hc⟩
   have hr1 : l1.length ≤ c1 := by omega
   have hcut1 : ∀ W : World, (Instr.slice 23 (.slice A l.length c) (some (.int .i64 (pn : Int))) none none).run Try.prog W = .ok (.slice A1 l1.length c1) W := fun W => by
    obtain ⟨i0, hi0, _, hsz0, _⟩ := info_parts info5
    have := cut_from (P := Try.prog) 23 5 .i64 Try.underlying23 hi0 1 hsz0 A l.length c (pn : Int) (by omega) (by omega) W
    rw [Int.toNat_natCast, ← hl1n, ← hA1, ← hc1] at this
    exact this
   rw [← hl1]
   have hpv2 : (pv : Int) < 9223372036854775808 := by omega
   have p1 : decide (0 ≤ (pn : Int)) = true := decide_eq_true (by omega)
   have p2 : decide ((pn : Int) ≤ (l.length : Int)) = true := decide_eq_true (by omega)
   clear hk1 hs hp hl1n hl1 hA1 hc1
   go_enter Try.func29, Try.ntmps29
   go_wp2_with fail
   refine (millhandref01_Read.calls k1 A c l _ _ _ _ HR.out hc HK.out).mono ?_
   rintro e w1 ⟨rfl, hb1⟩
   have HB1 := Aside0.mk (HB.out.below hb1)
   have HL := Aside0.mk hb1
   have hcell1 := HB1.out.c0
   have hfr1 := HB1.out.fr 0
   clear hb1 hcell
   go_wp2
   go_ret
   exact ⟨rfl, A1, c1, HB1.out.set0, HC1.out, hr1, grown_none HL.out (grownBy_cell _ _ _ _)⟩


/-- The next text, as the document reads it. -/
def rtS (l : List Int) (bad : Bool) : ByteArray × List Int × Bool := match rd1 0 l with
 | some p => if p.2 + p.1 ≤ l.length then (strOfNums ((l.take (p.2 + p.1)).drop p.2), l.drop (p.2 + p.1), bad) else (⟨#[]⟩, l, true)
 | none => (⟨#[]⟩, l, true)
theorem rtS_bounds (l : List Int) (bad : Bool) : (rtS l bad).2.1.length ≤ l.length ∧ (∀ x ∈ (rtS l bad).2.1, x ∈ l) ∧ (rtS l bad).1.size ≤ l.length := by
 unfold rtS
 split
 ·
  split
  ·
   refine ⟨by simp only [List.length_drop]; omega, fun x hx => List.mem_of_mem_drop hx, ?_⟩
   simp only [strOfNums_size, List.length_drop, List.length_take]
   omega
  ·
   exact ⟨Nat.le_refl _, fun _ h => h, Nat.zero_le _⟩
 ·
  exact ⟨Nat.le_refl _, fun _ h => h, Nat.zero_le _⟩
theorem Text_calls (g : Nat) (A : Option Addr) (c : Nat) (l : List Int) (bad : Bool) (w : World) (hb : RSt 59 w g A l.length c bad) (hr : Kd.C (Kd.int .u8) w A l.length l) (hc : l.length ≤ c) (hl : l.length ≤ 140737488351232) (hy : ∀ x ∈ l, 0 ≤ x ∧ x ≤ 255) :
  Calls Try.prog 30 #[.pointer (some ⟨g, 0, none⟩)] w fun e w' => e = .returned (.string (rtS l bad).1) ∧ RAfter 59 w g A l (rtS l bad).2.1 (rtS l bad).2.2 w' := by
 obtain ⟨k1, hk1⟩ := (ref01_Read_ev l (by omega) hy).rounds
 have hcell := hb.c0
 have HR := Aside0.mk hr
 have HB := Aside0.mk hb
 have HYY := Aside0.mk hy
 clear hr hb hy
 cases hp : rd1 0 l with
 | none =>
  have hs : rtS l bad = (⟨#[]⟩, l, true) := by unfold rtS; rw [hp]
  rw [hs]
  have HK := Aside0.mk (show millhandref01_Read.f k1 l = some (0, 0, 8) by rw [hk1]; unfold readS; rw [hp])
  clear hk1 hs hp
  go_enter Try.func30, Try.ntmps30
  go_wp2_with fail
  refine (millhandref01_Read.calls k1 A c l 0 0 8 _ HR.out hc HK.out).mono ?_
  rintro e w1 ⟨rfl, hb1⟩
  have HB1 := Aside0.mk (HB.out.below hb1)
  have HL := Aside0.mk hb1
  have hcell1 := HB1.out.c1
  have hfr1 := HB1.out.fr 1
  clear hb1 hcell
  go_wp2
  go_ret
  exact ⟨rfl, A, c, HB1.out.set1 true, fun _ h => h, hc, grown_none HL.out (grownBy_cell _ _ _ _)⟩
 | some p =>
  obtain ⟨pv, pn⟩ := p
  have hpl := rd1_len hp
  have hpv : (pv : Int) < 18446744073709551616 := by
   have := (rd1_only0 HYY.out hp).2.1
   omega
  dsimp only at hpl
  have HK := Aside0.mk (show millhandref01_Read.f k1 l = some ((pv : Int), (pn : Int), 0) by rw [hk1]; unfold readS; rw [hp])
  have hsub : wrap64 ((l.length : Int) - (pn : Int)) = ((l.length - pn : Nat) : Int) := by rw [w64 (by omega) (by omega)]; omega
  by_cases hfit : pn + pv ≤ l.length
  ·
   have hs : rtS l bad = (strOfNums ((l.take (pn + pv)).drop pn), l.drop (pn + pv), bad) := by unfold rtS; rw [hp]; exact if_pos hfit
   rw [hs]
   have c2 : decide ((l.length : Int) - (pn : Int) < (pv : Int)) = false := decide_eq_false (by omega)
   have hpv2 : (pv : Int) < 9223372036854775808 := by omega
   obtain ⟨l1, hl1⟩ : ∃ l1, l1 = l.drop (pn + pv) := ⟨_, rfl⟩
   obtain ⟨A1, hA1⟩ : ∃ A1, A1 = (if c = pn + pv then A else A.map (·.add ((pn + pv) * 1))) := ⟨_, rfl⟩
   obtain ⟨c1, hc1⟩ : ∃ c1, c1 = c - (pn + pv) := ⟨_, rfl⟩
   have hl1n : l1.length = l.length - (pn + pv) := by rw [hl1, List.length_drop]
   have HC1 : Aside0 (∀ W : World, Kd.C (Kd.int .u8) W A l.length l → Kd.C (Kd.int .u8) W A1 l1.length l1) := ⟨fun W h => by rw [hA1, hl1]; exact Kd.C_drop h hfit hc⟩
   have hr1 : l1.length ≤ c1 := by omega
   have hcut1 : ∀ W : World, (Instr.slice 23 (.slice A l.length c) (some (.int .i64 ((pn : Int) + (pv : Int)))) none none).run Try.prog W = .ok (.slice A1 l1.length c1) W := fun W => by
    obtain ⟨i0, hi0, _, hsz0, _⟩ := info_parts info5
    have := cut_from (P := Try.prog) 23 5 .i64 Try.underlying23 hi0 1 hsz0 A l.length c ((pn : Int) + (pv : Int)) (by omega) (by omega) W
    rw [show ((pn : Int) + (pv : Int)).toNat = pn + pv by omega, ← hl1n, ← hA1, ← hc1] at this
    exact this
   obtain ⟨l2, hl2⟩ : ∃ l2, l2 = (l.take (pn + pv)).drop pn := ⟨_, rfl⟩
   obtain ⟨A2, hA2⟩ : ∃ A2, A2 = (if c = pn then A else A.map (·.add (pn * 1))) := ⟨_, rfl⟩
   have hl2n : l2.length = pv := by rw [hl2, List.length_drop, List.length_take]; omega
   have HC2 : Aside0 (∀ W : World, Kd.C (Kd.int .u8) W A l.length l → Kd.C (Kd.int .u8) W A2 l2.length l2) := ⟨fun W h => by
    rw [hA2, hl2]
    exact Kd.C_drop (Kd.C_take h hfit) (by rw [List.length_take]; omega) (by rw [List.length_take]; omega)⟩
   have hcut2 : ∀ W : World, (Instr.slice 23 (.slice A l.length c) (some (.int .i64 (pn : Int))) (some (.int .i64 ((pn : Int) + (pv : Int)))) none).run Try.prog W = .ok (.slice A2 l2.length (c - pn)) W := fun W => by
    obtain ⟨i0, hi0, _, hsz0, _⟩ := info_parts info5
    have := cut_mid (P := Try.prog) 23 5 .i64 .i64 Try.underlying23 hi0 1 hsz0 A l.length c (pn : Int) ((pn : Int) + (pv : Int)) (by omega) (by omega) (by omega) hc W
    rw [Int.toNat_natCast, show ((pn : Int) + (pv : Int)).toNat - pn = l2.length by omega, ← hA2] at this
    exact this
   rw [← hl1, ← hl2]
   have HCV : Aside0 (∀ W : World, Kd.C (Kd.int .u8) W A l.length l → (convert 23 9 (.slice A2 l2.length (c - pn))).run Try.prog W = .ok (.string (strOfNums l2)) W) := ⟨fun W h =>
    C_string_ (P := Try.prog) (c := c - pn) Try.underlying23 Try.underlying5 Try.underlying9 (HC2.out W h) _ rfl⟩
   have hw1 : IntKind.i64.wrap (pv : Int) = (pv : Int) := by rw [IntKind.wrap_i64]; omega
   have p1 : 0 ≤ (pn : Int) + (pv : Int) := by omega
   have p2 : (pn : Int) + (pv : Int) ≤ (l.length : Int) := by omega
   have p3 : (pn : Int) ≤ (pn : Int) + (pv : Int) := by omega
   clear hk1 hs hp hl1n hl1 hA1 hc1 hl2n hl2 hA2
   go_enter Try.func30, Try.ntmps30
   go_wp2_with fail
   refine (millhandref01_Read.calls k1 A c l _ _ _ _ HR.out hc HK.out).mono ?_
   rintro e w1 ⟨rfl, hb1⟩
   have HB1 := Aside0.mk (HB.out.below hb1)
   have HL := Aside0.mk hb1
   have hcell1 := HB1.out.c0
   have hfr1 := HB1.out.fr 0
   have hconv := HCV.out w1 (Kd.C_below HR.out hb1)
   clear hb1 hcell
   go_wp2
   go_ret
   exact ⟨rfl, A1, c1, HB1.out.set0, HC1.out, hr1, grown_none HL.out (grownBy_cell _ _ _ _)⟩
  ·
   have hs : rtS l bad = (⟨#[]⟩, l, true) := by unfold rtS; rw [hp]; exact if_neg hfit
   rw [hs]
   have c2 : decide ((l.length : Int) - (pn : Int) < (pv : Int)) = true := decide_eq_true (by omega)
   clear hk1 hs hp
   go_enter Try.func30, Try.ntmps30
   go_wp2_with fail
   refine (millhandref01_Read.calls k1 A c l _ _ _ _ HR.out hc HK.out).mono ?_
   rintro e w1 ⟨rfl, hb1⟩
   have HB1 := Aside0.mk (HB.out.below hb1)
   have HL := Aside0.mk hb1
   have hcell0 := HB1.out.c0
   have hcell1 := HB1.out.c1
   have hfr1 := HB1.out.fr 1
   clear hb1 hcell
   go_wp2
   go_ret
   exact ⟨rfl, A, c, HB1.out.set1 true, fun _ h => h, hc, grown_none HL.out (grownBy_cell _ _ _ _)⟩
def byteS (l : List Int) (bad : Bool) : Int × List Int × Bool := match l with
 | [] => (0, [], true)
 | x :: t => (x, t, bad)
theorem byteS_bounds (l : List Int) (bad : Bool) : (byteS l bad).2.1.length ≤ l.length ∧ (∀ x ∈ (byteS l bad).2.1, x ∈ l) := by
 cases l with
 | nil => exact ⟨Nat.le_refl _, fun _ h => h⟩
 | cons x t => exact ⟨by simp [byteS], fun y h => List.mem_cons_of_mem _ h⟩
theorem Byte_calls (g : Nat) (A : Option Addr) (c : Nat) (l : List Int) (bad : Bool) (w : World) (hb : RSt 59 w g A l.length c bad) (hr : Kd.C (Kd.int .u8) w A l.length l) (hc : l.length ≤ c) (hl : l.length ≤ 140737488351232) :
  Calls Try.prog 31 #[.pointer (some ⟨g, 0, none⟩)] w fun e w' => e = .returned (.int .u8 (byteS l bad).1) ∧ RAfter 59 w g A l (byteS l bad).2.1 (byteS l bad).2.2 w' := by
 have hcell := hb.c0
 have hcellb := hb.c1
 have HR := Aside0.mk hr
 have HB := Aside0.mk hb
 cases l with
 | nil =>
  show Calls _ _ _ _ fun e w' => e = .returned (.int .u8 0) ∧ RAfter _ w g A [] [] true w'
  have hfr := hb.fr 1
  clear hb hr
  go_enter Try.func31, Try.ntmps31
  go_wp2
  go_ret
  exact ⟨rfl, A, c, HB.out.set1 true, fun _ h => h, hc, grownBy_cell _ _ _ _⟩
 | cons x t =>
  show Calls _ _ _ _ fun e w' => e = .returned (.int .u8 x) ∧ RAfter _ w g A (x :: t) t bad w'
  obtain ⟨N, hN⟩ : ∃ N, N = (x :: t).length := ⟨_, rfl⟩
  have hN1 : N = t.length + 1 := by rw [hN]; rfl
  rw [← hN] at hcell hc hl
  obtain ⟨ad, ea, hx⟩ := Kd.at_int hr 0 (by omega) (by simp)
  subst ea
  have hrd : rd (x :: t) 0 = x := rfl
  rw [hrd, show ad.add (0 : Int).toNat = ad by simp [Addr.add]] at hx
  obtain ⟨A1, hA1⟩ : ∃ A1, A1 = (if c = 1 then (some ad) else (some ad).map (·.add (1 * 1))) := ⟨_, rfl⟩
  obtain ⟨c1, hc1⟩ : ∃ c1, c1 = c - 1 := ⟨_, rfl⟩
  have HC1 : Aside0 (∀ W : World, Kd.C (Kd.int .u8) W (some ad) (x :: t).length (x :: t) → Kd.C (Kd.int .u8) W A1 t.length t) := ⟨fun W h => by
   have := Kd.C_drop (m := 1) (c := c) h (by simp) (by simp; omega)
   rw [hA1]
   exact this⟩
  have hr1 : t.length ≤ c1 := by omega
  have hcut1 : ∀ W : World, (Instr.slice 23 (.slice (some ad) N c) (some (.int .i64 1)) none none).run Try.prog W = .ok (.slice A1 t.length c1) W := fun W => by
   obtain ⟨i0, hi0, _, hsz0, _⟩ := info_parts info5
   have := cut_from (P := Try.prog) 23 5 .i64 Try.underlying23 hi0 1 hsz0 (some ad) N c 1 (by omega) (by omega) W
   rw [show (1 : Int).toNat = 1 from rfl, show N - 1 = t.length by omega, ← hA1, ← hc1] at this
   exact this
  have hz : ((N : Int) == 0) = false := beq_eq_false_iff_ne.mpr (by omega)
  have p1 : decide (0 < N) = true := decide_eq_true (by omega)
  have p2 : decide ((1 : Int) ≤ (N : Int)) = true := decide_eq_true (by omega)
  have p3 : decide ((0 : Int) < (N : Int)) = true := decide_eq_true (by omega)
  have p4 : 0 < N := by omega
  have hfr := hb.fr 0
  clear hb hr hA1 hc1 hN hrd hN1
  go_enter Try.func31, Try.ntmps31
  go_wp2
  go_ret
  exact ⟨rfl, A1, c1, HB.out.set0, HC1.out, hr1, grownBy_cell _ _ _ _⟩


theorem ref01_Small_l0 : ∀ (d n : Nat) (acc : List Int), n < 128 ^ (d + 1) → n < 18446744073709551616 → acc.length + d < 140737488355300 → Ev (fun k => millhandref01_Small.l0 k (n : Int) acc) (acc ++ smallN n)
 | d, n, acc, h, hn, hl => by
  refine Ev.step (fun _ => millhandref01_Small.l0.eq_2 ..) ?_
  by_cases h1 : n < 128
  ·
   refine ev_neg (by omega) (ev_pos (by omega) (ev_some ?_))
   rw [smallN_lt h1]
   congr 2
   omega
  ·
   refine ev_pos (by omega) (ev_pos (by omega) ?_)
   cases d with
   | zero => omega
   | succ d =>
    have hd : n / 128 < 128 ^ (d + 1) := by rw [Nat.div_lt_iff_lt_mul (by decide)]; rw [Nat.pow_succ] at h; exact h
    have e1 : IntKind.u64.wrap (Int.tdiv (n : Int) 128) = ((n / 128 : Nat) : Int) := by
     rw [Int.tdiv_eq_ediv_of_nonneg (by omega), u64w]
     omega
    rw [smallN_ge h1, e1, Int.tmod_eq_emod_of_nonneg (by omega)]
    refine ev_eq (ref01_Small_l0 d (n / 128) _ hd (by omega) (by simp; omega)) ?_
    rw [List.append_assoc, List.singleton_append]
    congr 2
    omega
theorem ref01_Small_ev {n : Int} (h0 : 0 ≤ n) (h : n < 18446744073709551616) : Ev (fun k => millhandref01_Small.f k n) (smallN n.toNat) := by
 obtain ⟨m, rfl⟩ := Int.eq_ofNat_of_zero_le h0
 unfold millhandref01_Small.f
 exact ref01_Small_l0 9 m [] (by omega) (by omega) (by simp)


theorem ref01_Text_ev {s : ByteArray} (h : s.size ≤ 140737488351232) : Ev (fun k => millhandref01_Text.f k s) (smallN s.size ++ bytesOf s) := by
 unfold millhandref01_Text.f
 rw [u64w_in (by omega) (by omega)]
 refine Ev.bind (ref01_Small_ev (by omega) (by omega)) ?_
 have := smallN_len10 (n := s.size) (by omega)
 exact ev_pos (by rw [Int.toNat_natCast]; omega) (Ev.now _)


/-! ### the document's writing -/
theorem less_iff {x y : UInt8} {a b : List UInt8} : Op.bytesLess (x :: a) (y :: b) = true ↔ x.toNat < y.toNat ∨ (x = y ∧ Op.bytesLess a b = true) := by
 show (decide (x < y) || (x == y && Op.bytesLess a b)) = true ↔ _
 rw [Bool.or_eq_true, Bool.and_eq_true, decide_eq_true_eq, beq_iff_eq, UInt8.lt_iff_toNat_lt]
theorem less_asym : ∀ a b : List UInt8, Op.bytesLess a b = true → Op.bytesLess b a = false
 | [], [], h => by cases h
 | [], y :: b, _ => rfl
 | x :: a, [], h => by cases h
 | x :: a, y :: b, h => by
  refine Bool.eq_false_iff.mpr fun h2 => ?_
  rcases less_iff.mp h with h | ⟨e, h⟩ <;> rcases less_iff.mp h2 with h2 | ⟨e2, h2⟩
  ·
   omega
  ·
   subst e2; omega
  ·
   subst e; omega
  ·
   rw [less_asym a b h] at h2; cases h2
theorem less_tot : ∀ a b : List UInt8, Op.bytesLess a b = false → Op.bytesLess b a = false → a = b
 | [], [], _, _ => rfl
 | [], y :: b, h, _ => by cases h
 | x :: a, [], _, h => by cases h
 | x :: a, y :: b, h1, h2 => by
  have n1 := fun h => Bool.eq_false_iff.mp h1 (less_iff.mpr h)
  have n2 := fun h => Bool.eq_false_iff.mp h2 (less_iff.mpr h)
  have e : x = y := by
   have a1 : ¬ x.toNat < y.toNat := fun h => n1 (Or.inl h)
   have a2 : ¬ y.toNat < x.toNat := fun h => n2 (Or.inl h)
   exact UInt8.toNat_inj.mp (by omega)
  subst e
  rw [less_tot a b (Bool.eq_false_iff.mpr fun h => n1 (Or.inr ⟨rfl, h⟩)) (Bool.eq_false_iff.mpr fun h => n2 (Or.inr ⟨rfl, h⟩))]
theorem less_irr (a : List UInt8) : Op.bytesLess a a = false := by
 refine Bool.eq_false_iff.mpr fun h => ?_
 have := less_asym a a h
 rw [h] at this
 cases this
theorem ref12_Ahead_eq (p x : EnT) : millhandref12_Ahead.f p.f0 p.f1 p.f2 p.f3 x.f0 x.f1 x.f2 x.f3 = some (okS p x) := by
 unfold millhandref12_Ahead.f okS
 by_cases h1 : Op.bytesLess p.f0.toList x.f0.toList = true
 ·
  have h2 := less_asym _ _ h1
  have h3 : ¬ x.f0.toList = p.f0.toList := fun e => by rw [e, less_irr] at h1; cases h1
  rw [if_pos h1, if_neg (by rw [h2]; decide), if_neg h3]
 ·
  rw [if_neg h1]
  by_cases h2 : Op.bytesLess x.f0.toList p.f0.toList = true
  ·
   have h3 : ¬ p.f0.toList = x.f0.toList := fun e => by rw [e, less_irr] at h2; cases h2
   rw [if_pos h2, if_neg h3]
  ·
   have h3 := less_tot _ _ (Bool.eq_false_iff.mpr h1) (Bool.eq_false_iff.mpr h2)
   rw [if_neg h2, if_pos h3, if_pos h3.symm]
   by_cases h4 : p.f1 ≤ x.f1
   ·
    rw [decide_eq_true h4, decide_eq_false (by omega)]; rfl
   ·
    rw [decide_eq_false h4, decide_eq_true (by omega)]; rfl
theorem ref12_Key_eq (s : ByteArray) : millhandref12_Key.f s = some (keyedS s) := by
 unfold millhandref12_Key.f keyedS
 by_cases h : (s.size : Int) ≥ 1
 ·
  rw [if_pos h]
  have h' : 1 ≤ s.size := by omega
  simp [h']
  omega
 ·
  rw [if_neg h]
  have h' : ¬ 1 ≤ s.size := by omega
  simp [h']
theorem ref12_May_eq (x : EnT) : millhandref12_May.f x.f0 x.f1 x.f2 x.f3 = some (mayS x) := by
 unfold millhandref12_May.f mayS
 rw [ref12_Key_eq]
 simp only [Option.bind_some]
 cases x.f2 <;> cases x.f3.toList <;> cases keyedS x.f0 <;> repeat' split
 all_goals simp_all
 all_goals omega
theorem ref12_Ordered_l0 (l : List EnT) (hl : l.length < 9223372036854775807) : ∀ (d i : Nat), i + d = l.length → Ev (fun k => millhandref12_Ordered.l0 k l (i : Int)) (ordF (prevS l i) (l.drop i))
 | 0, i, h => by
  rw [List.drop_of_length_le (by omega)]
  exact Ev.step (fun _ => millhandref12_Ordered.l0.eq_2 ..) (ev_neg (by omega) (ev_some rfl))
 | d + 1, i, h => by
  have hi : i < l.length := by omega
  have hp : prevS l (i + 1) = some l[i] := by unfold prevS; rw [if_neg (by omega), Nat.add_sub_cancel, List.getElem?_eq_getElem hi]
  have ih := ref12_Ordered_l0 l hl d (i + 1) (by omega)
  rw [hp] at ih
  rw [List.drop_eq_getElem_cons hi, ordF_cons]
  refine Ev.step (fun _ => millhandref12_Ordered.l0.eq_2 ..) (ev_pos (by omega) (ev_pos (by omega) ?_))
  rw [rd_en l i hi, ref12_May_eq]
  simp only [Option.bind_some]
  by_cases hb : mayS l[i] = true
  ·
   rw [hb, Bool.true_and]
   refine ev_pos rfl ?_
   by_cases hz : i = 0
   ·
    have hpz : prevS l i = none := by unfold prevS; rw [if_pos hz]
    rw [hpz, show stepS none l[i] = true from rfl, Bool.true_and]
    refine ev_neg (by omega) ?_
    rw [w64 (by omega) (by omega)]
    exact ih
   ·
    have hi1 : i - 1 < l.length := by omega
    have hpz : prevS l i = some l[i - 1] := by unfold prevS; rw [if_neg hz, List.getElem?_eq_getElem hi1]
    have e1 : wrap64 ((i : Int) - 1) = ((i - 1 : Nat) : Int) := by rw [w64 (by omega) (by omega)]; omega
    rw [hpz, show stepS (some l[i - 1]) l[i] = okS l[i - 1] l[i] from rfl]
    refine ev_pos (by omega) ?_
    rw [e1, rd_en l (i - 1) hi1]
    refine ev_pos (by omega) (ev_pos (by omega) ?_)
    rw [ref12_Ahead_eq]
    simp only [Option.bind_some]
    by_cases ho : okS l[i - 1] l[i] = true
    ·
     rw [ho, Bool.true_and]
     refine ev_pos rfl ?_
     rw [w64 (i := (i : Int) + 1) (by omega) (by omega)]
     exact ih
    ·
     rw [Bool.eq_false_iff.mpr ho, Bool.false_and]
     exact ev_neg (by simp) (ev_some rfl)
  ·
   rw [Bool.eq_false_iff.mpr hb, Bool.false_and, Bool.false_and]
   exact ev_neg (by simp) (ev_some rfl)
theorem ref12_Common_l0 (a b : ByteArray) (ha : a.size < 9223372036854775807) (hb : b.size < 9223372036854775807) : ∀ (d i : Nat), i + d = min a.size b.size → Ev (fun k => millhandref12_Common.l0 k a b (i : Int)) ((i + commonN (a.data.toList.drop i) (b.data.toList.drop i) : Nat) : Int)
 | 0, i, h => by
  have hz : commonN (a.data.toList.drop i) (b.data.toList.drop i) = 0 := by
   have := commonN_le (a.data.toList.drop i) (b.data.toList.drop i)
   have e1 : (a.data.toList.drop i).length = a.size - i := by rw [List.length_drop]; rfl
   have e2 : (b.data.toList.drop i).length = b.size - i := by rw [List.length_drop]; rfl
   omega
  rw [hz]
  refine Ev.step (fun _ => millhandref12_Common.l0.eq_2 ..) ?_
  by_cases h1 : (i : Int) < (a.size : Int)
  ·
   exact ev_pos h1 (ev_neg (by omega) (ev_some rfl))
  ·
   exact ev_neg h1 (ev_some rfl)
 | d + 1, i, h => by
  have h1 : i < a.data.toList.length := by show i < a.size; omega
  have h2 : i < b.data.toList.length := by show i < b.size; omega
  refine Ev.step (fun _ => millhandref12_Common.l0.eq_2 ..) (ev_pos (by omega) (ev_pos (by omega) (ev_pos (by omega) ?_)))
  rw [bt_get a i (by omega) h1, bt_get b i (by omega) h2, List.drop_eq_getElem_cons h1, List.drop_eq_getElem_cons h2]
  by_cases he : a.data.toList[i] = b.data.toList[i]
  ·
   refine ev_pos (by rw [he]) ?_
   rw [w64 (by omega) (by omega)]
   refine ev_eq (ref12_Common_l0 a b ha hb d (i + 1) (by omega)) ?_
   rw [commonN, if_pos he]
   omega
  ·
   refine ev_neg (fun e => he (UInt8.toNat_inj.mp (Int.ofNat_inj.mp e))) (ev_some ?_)
   rw [commonN, if_neg he]
   rfl
theorem ref12_Common_ev (a b : ByteArray) (ha : a.size < 9223372036854775807) (hb : b.size < 9223372036854775807) : Ev (fun k => millhandref12_Common.f k a b) (commonS a b : Int) := by
 unfold millhandref12_Common.f
 have := ref12_Common_l0 a b ha hb (min a.size b.size) 0 (by omega)
 simp only [List.drop_zero, Nat.zero_add] at this
 exact this
theorem ref12_Write_l0 (l : List EnT) (hm : ∀ x ∈ l, mayS x = true) (hl : l.length ≤ 1024) : ∀ (d i : Nat) (acc : List Int) (last : ByteArray), i + d = l.length → acc.length + 700 * d < 140737488355328 → last.size ≤ 64 →
  Ev (fun k => millhandref12_Write.l0 k l acc last (i : Int)) (if 2048 < (acc ++ bodyS last (l.drop i)).length then ([], 3) else (acc ++ bodyS last (l.drop i), 0))
 | 0, i, acc, last, h, ha, hs => by
  refine Ev.step (fun _ => millhandref12_Write.l0.eq_2 ..) (ev_neg (by omega) ?_)
  rw [List.drop_of_length_le (by omega)]
  simp only [bodyS, List.append_nil]
  exact ev_ite' (by omega) (fun _ => Ev.now _) (fun _ => Ev.now _)
 | d + 1, i, acc, last, h, ha, hs => by
  have hi : i < l.length := by omega
  have hmi := hm _ (List.getElem_mem hi)
  obtain ⟨x, hx⟩ : ∃ x, x = l[i] := ⟨_, rfl⟩
  have hol := entB_length hmi last
  obtain ⟨h1, h2, h3, h4, h5, _⟩ := mayS_bounds hmi
  have hc := commonS_le last l[i].f0
  rw [← hx] at hmi hol h1 h2 h3 h4 h5 hc
  refine Ev.step (fun _ => millhandref12_Write.l0.eq_2 ..) (ev_pos (by omega) (ev_pos (by omega) ?_))
  rw [rd_en l i hi, ← hx, List.drop_eq_getElem_cons hi, ← hx]
  have ih := ref12_Write_l0 l hm hl d (i + 1) (acc ++ entB last x) x.f0 (by omega) (by rw [List.length_append]; omega) h2
  rw [show acc ++ bodyS last (x :: l.drop (i + 1)) = acc ++ entB last x ++ bodyS x.f0 (l.drop (i + 1)) by rw [bodyS, List.append_assoc]]
  refine Ev.bind (ref12_Common_ev last x.f0 (by omega) (by omega)) ?_
  rw [u64w_in (by omega) (by omega)]
  refine Ev.bind (ref01_Small_ev (by omega) (by omega)) ?_
  rw [Int.toNat_natCast]
  have e := extract_size x.f0 (commonS last x.f0) hc.2
  unfold entB at hol ih ⊢
  have a := smallN_len10 (n := commonS last x.f0) (by omega)
  have b := textS_length (s := x.f0.extract (commonS last x.f0) x.f0.size) (by omega)
  have c := smallN_len10 (n := x.f1.toNat) (by omega)
  have dd := textS_length (s := x.f3) (by omega)
  refine ev_pos (by omega) ?_
  simp only [Option.bind_some]
  refine ev_pos (by omega) (ev_pos (by omega) (Ev.bind (ref01_Text_ev (by omega)) ?_))
  refine ev_pos (by show _ + (textS _).length < _; rw [List.length_append]; omega) ?_
  rw [u64w_in (by omega) (by omega)]
  refine Ev.bind (ref01_Small_ev (by omega) (by omega)) ?_
  refine ev_pos (by show (acc ++ _ ++ textS _).length + _ < _; simp only [List.length_append]; omega) ?_
  cases hd : x.f2 with
  | true =>
   rw [hd] at ih
   refine ev_pos rfl (ev_pos (by show (acc ++ _ ++ textS _ ++ _).length < _; simp only [List.length_append]; omega) ?_)
   rw [w64 (by omega) (by omega)]
   refine ev_eq (Ev.congr (fun k => ?_) ih) rfl
   simp [textS]
  | false =>
   rw [hd] at ih
   refine ev_neg (by simp) (ev_pos (by show (acc ++ _ ++ textS _ ++ _).length < _; simp only [List.length_append]; omega) (Ev.bind (ref01_Text_ev (by omega)) ?_))
   refine ev_pos (by show (acc ++ _ ++ textS _ ++ _ ++ _).length + (textS _).length < _; simp only [List.length_append, List.length_cons, List.length_nil]; omega) ?_
   rw [w64 (by omega) (by omega)]
   refine ev_eq (Ev.congr (fun k => ?_) ih) rfl
   simp [textS]
theorem ref12_Write_ev (l : List EnT) (hl : l.length < 9223372036854775807) : Ev (fun k => millhandref12_Write.f k l) (writeS l) := by
 have hj : ∀ b, b = decide (l.length < 1 ∨ 1024 < l.length) → Ev (fun k => millhandref12_Write.j0 k l b) (writeS l) := by
  intro b hb
  unfold writeS
  refine Ev.step (fun _ => millhandref12_Write.j0.eq_2 ..) ?_
  by_cases h : l.length < 1 ∨ 1024 < l.length
  ·
   rw [if_pos h]
   exact ev_pos (by rw [hb]; exact decide_eq_true h) (Ev.now _)
  ·
   rw [if_neg h]
   refine ev_neg (by rw [hb, decide_eq_false h]; decide) ?_
   have ho := ref12_Ordered_l0 l hl l.length 0 (by omega)
   rw [List.drop_zero, show prevS l 0 = none from rfl] at ho
   refine Ev.bind (f := fun k t180 => if t180 = true then ((millhandref01_Small.f k (IntKind.u64.wrap ((l.length : Int)))).bind fun t181 => (millhandref12_Write.l0 k l t181 (⟨#[]⟩ : ByteArray) 0)) else (some (([] : List Int), 8))) (show Ev (fun k => millhandref12_Ordered.f k l) (ordF none l) from ho) ?_
   by_cases hb2 : ordF none l = true
   ·
    rw [if_pos hb2]
    refine ev_pos hb2 ?_
    rw [u64w_in (by omega) (by omega)]
    refine Ev.bind (ref01_Small_ev (by omega) (by omega)) ?_
    rw [Int.toNat_natCast]
    have := smallN_len10 (n := l.length) (by omega)
    have h1 := ref12_Write_l0 l (ordF_may hb2) (by omega) l.length 0 (smallN l.length) ⟨#[]⟩ (by omega) (by omega) (by decide)
    rw [List.drop_zero] at h1
    exact h1
   ·
    rw [if_neg hb2]
    exact ev_neg hb2 (Ev.now _)
 unfold millhandref12_Write.f
 by_cases h : (l.length : Int) < 1
 ·
  exact ev_pos h (hj true (by rw [decide_eq_true (by omega)]))
 ·
  refine ev_neg h (hj _ ?_)
  rw [decide_eq_decide]
  omega


/-! ### a block read, as the document does -/
def refRound (last : ByteArray) (b : List Int) : EnT × List Int × Bool :=
 match numS last.size b false with
 | (p, b1, d1) => match rtS b1 d1 with
  | (s, b2, d2) => match numS 1099511627776 b2 d2 with
   | (q, b3, d3) => match byteS b3 d3 with
    | (d, b4, d4) => match (if d = 1 then ((⟨#[]⟩ : ByteArray), b4, d4) else rtS b4 d4) with
     | (v, b5, d5) => (⟨last.extract 0 p.toNat ++ s, q, d == 1, v⟩, b5, d5)
def refFrom : Nat → ByteArray → List Int → Bool → List EnT → Option (List EnT × Bool)
 | 0, _, _, bad, acc => some (acc, bad)
 | m + 1, last, b, bad, acc => if bad = true then some (acc, true) else if 64 < (refRound last b).1.f0.size then none else refFrom m (refRound last b).1.f0 (refRound last b).2.1 (refRound last b).2.2 (acc ++ [(refRound last b).1])
def refReadB (l : List Int) : List EnT × Int :=
 if 2048 < l.length then ([], 3)
 else match numS 1024 l false with
  | (m, b, bad) => match refFrom m.toNat ⟨#[]⟩ b bad [] with
   | none => ([], 8)
   | some r => if r.2 = true ∨ (writeS r.1).2 ≠ 0 ∨ (writeS r.1).1 ≠ l then ([], 8) else (r.1, 0)
def millhandref12_Read.f (l0 : List Int) : Option ((List (S39)) × Int) := if (∀ x ∈ l0, 0 ≤ x ∧ x ≤ 255) ∧ l0.length ≤ 140737488351232 then some (refReadB l0) else none
set_option maxHeartbeats 8000000 in
set_option maxRecDepth 100000 in
theorem millhandref12_Read.calls (A0 : Option Addr) (c0 : Nat) (l0 : List Int) (r1 : List (S39)) (r2 : Int) (w : World) (hr0 : Kd.C (Kd.int .u8) w A0 l0.length l0) (hc0 : l0.length ≤ c0) (h : millhandref12_Read.f l0 = some (r1, r2)) :
  Calls Try.prog 12 #[.slice A0 l0.length c0] w fun e w' => ∃ v0_ : Value, e = .returned (.tuple #[v0_, .int .i64 r2]) ∧ Kd.R k39 39 w' w.heap.size (fun _ => True) v0_ r1 ∧ Below w.heap.size w w' := by
 unfold millhandref12_Read.f at h
 split at h
 case isFalse => cases h
 rename_i hcond
 obtain ⟨hy, hlen⟩ := hcond
 have hres : refReadB l0 = (r1, r2) := Option.some.inj h
 clear h
 have HX := Aside0.mk hres
 have HR0 := Aside0.mk hr0
 have HY := Aside0.mk hy
 clear hres hr0 hy
 by_cases hbig : 2048 < l0.length
 ·
  have e : ([] : List EnT) = r1 ∧ (3 : Int) = r2 := by
   have h := HX.out
   unfold refReadB at h
   rw [if_pos hbig] at h
   exact ⟨(Prod.mk.inj h).1, (Prod.mk.inj h).2⟩
  obtain ⟨rfl, rfl⟩ := e
  have c1 : decide (2048 < (l0.length : Int)) = true := decide_eq_true (by omega)
  go_enter Try.func12, Try.ntmps12
  go_wp2
  go_ret2
  exact ⟨_, rfl, Kd.R_nil _ _ _ _ _, Below.refl _ _⟩
 ·
  have c1 : decide (2048 < (l0.length : Int)) = false := decide_eq_false (by omega)
  have hnb := numS_bounds 1024 (by decide) l0 false
  obtain ⟨m0, b0, bad0, hn⟩ : ∃ m0 b0 bad0, numS 1024 l0 false = (m0, b0, bad0) := ⟨_, _, _, rfl⟩
  rw [hn] at hnb
  obtain ⟨hm0, hm1, hl1, hmem⟩ := hnb
  dsimp only at hm0 hm1 hl1 hmem
  obtain ⟨m, rfl⟩ := Int.eq_ofNat_of_zero_le hm0
  have HJ : Aside0 ((match refFrom m ⟨#[]⟩ b0 bad0 [] with
   | none => ([], 8)
   | some r => if r.2 = true ∨ (writeS r.1).2 ≠ 0 ∨ (writeS r.1).1 ≠ l0 then ([], 8) else (r.1, 0)) = (r1, r2)) := ⟨by
    have h := HX.out
    unfold refReadB at h
    rw [if_neg hbig, hn] at h
    exact h⟩
  have HN := Aside0.mk hn
  have HMEM : Aside0 (∀ x ∈ b0, 0 ≤ x ∧ x ≤ 255) := ⟨fun x hx => HY.out x (hmem x hx)⟩
  clear HX hn hmem
  have HB0 := Aside0.mk (show RSt 59 (w.alloc (.cells #[.slice A0 l0.length c0, .bool false] 59)) w.heap.size A0 l0.length c0 false from blk_new w _)
  have HBL0 := Aside0.mk (below_alloc (Below.refl w.heap.size w) (.cells #[.slice A0 l0.length c0, .bool false] 59))
  go_enter Try.func12, Try.ntmps12
  go_wp2_with fail
  refine (Number_calls w.heap.size A0 c0 l0 false 1024 _ HB0.out (Kd.C_alloc HR0.out _) hc0 (by omega) HY.out (by decide) (by decide)).mono ?_
  rw [HN.out]
  rintro e w1 ⟨rfl, A, c, hb1, hC1, hc1, hg1⟩
  dsimp only at hb1 hC1 hc1 ⊢
  have HL : Aside0 (LSt 59 w w.heap.size (.slice none 0 0) [] A b0.length c bad0 w1) := ⟨⟨hb1, Kd.R_nil _ _ _ _ _, bel_call HBL0.out (Nat.le_refl _) hg1, Nat.le_refl _⟩⟩
  have HC := Aside0.mk (hC1 w HR0.out)
  clear hb1 hC1 hg1 HB0 HBL0
  go_wp2_with fail
  go_loopw [5, 7, 8] (fun v5 v7 v8 w' => ∃ (j : Nat) (b : List Int) (last : ByteArray) (acc : List EnT) (A : Option Addr) (c : Nat) (bad : Bool), v8 = .int .u64 (j : Int) ∧ v7 = .string last ∧ j ≤ m ∧ acc.length = j ∧ last.size ≤ 64 ∧ b.length ≤ c ∧ b.length ≤ 2048 ∧ Aside0 (refFrom (m - j) last b bad acc = refFrom m ⟨#[]⟩ b0 bad0 []) ∧ Aside0 (∀ x ∈ b, 0 ≤ x ∧ x ≤ 255) ∧ Aside0 (Kd.C (Kd.int .u8) w A b.length b) ∧ Aside0 (LSt 59 w w.heap.size v5 acc A b.length c bad w')) (fun v5 v7 v8 w' => m - (match v8 with | .int _ j => j.toNat | _ => 0))
  case atStart => exact ⟨0, b0, ⟨#[]⟩, [], A, c, bad0, rfl, rfl, Nat.zero_le _, rfl, by decide, hc1, by omega, ⟨rfl⟩, HMEM, HC, HL⟩
  case round =>
   obtain ⟨j, b, last, acc, A, c, bad, rfl, rfl, hjm, hjl, hls, hc, hbl, HO, HYb, HC, HL⟩ := hrel
   by_cases hj : j < m
   ·
    have hj1 : decide ((j : Int) < (m : Int)) = true := decide_eq_true (by omega)
    obtain ⟨dd, hd⟩ : ∃ dd, m - j = dd + 1 := ⟨m - j - 1, by omega⟩
    have hbb := HL.out.box.c1
    cases hbad : bad with
    | true =>
     rw [hbad] at hbb
     have HJ2 : Aside0 (([] : List EnT) = r1 ∧ (8 : Int) = r2) := ⟨by
      have h := HJ.out
      rw [← HO.out, hd, refFrom, if_pos hbad] at h
      simp only [true_or, if_true] at h
      exact ⟨(Prod.mk.inj h).1, (Prod.mk.inj h).2⟩⟩
     obtain ⟨rfl, rfl⟩ := HJ2.out
     clear hd hjl
     go_wp2
     go_ret2
     exact ⟨_, rfl, Kd.R_nil _ _ _ _ _, HL.out.bel⟩
    | false =>
     subst hbad
     have hO := HO.out
     rw [hd, refFrom, if_neg (by decide)] at hO
     unfold refRound at hO
     obtain ⟨p, b1, d1, hn1⟩ : ∃ p b1 d1, numS last.size b false = (p, b1, d1) := ⟨_, _, _, rfl⟩
     obtain ⟨s, b2, d2, hn2⟩ : ∃ s b2 d2, rtS b1 d1 = (s, b2, d2) := ⟨_, _, _, rfl⟩
     obtain ⟨q, b3, d3, hn3⟩ : ∃ q b3 d3, numS 1099511627776 b2 d2 = (q, b3, d3) := ⟨_, _, _, rfl⟩
     obtain ⟨d, b4, d4, hn4⟩ : ∃ d b4 d4, byteS b3 d3 = (d, b4, d4) := ⟨_, _, _, rfl⟩
     obtain ⟨v, b5, d5, hn5⟩ : ∃ v b5 d5, (if d = 1 then ((⟨#[]⟩ : ByteArray), b4, d4) else rtS b4 d4) = (v, b5, d5) := ⟨_, _, _, rfl⟩
     have hB1 := numS_bounds last.size (by omega) b false
     have hB2 := rtS_bounds b1 d1
     have hB3 := numS_bounds 1099511627776 (by decide) b2 d2
     have hB4 := byteS_bounds b3 d3
     rw [hn1] at hB1
     rw [hn2] at hB2
     rw [hn3] at hB3
     rw [hn4] at hB4
     simp only [hn1, hn2, hn3, hn4, hn5] at hO
     dsimp only at hB1 hB2 hB3 hB4
     obtain ⟨hp0, hp1, hl1', hm1'⟩ := hB1
     obtain ⟨hl2, hm2, hs2⟩ := hB2
     obtain ⟨hq0, hq1, hl3, hm3⟩ := hB3
     obtain ⟨hl4, hm4⟩ := hB4
     have HY1 : Aside0 (∀ x ∈ b1, 0 ≤ x ∧ x ≤ 255) := ⟨fun x hx => HYb.out x (hm1' x hx)⟩
     have HY2 : Aside0 (∀ x ∈ b2, 0 ≤ x ∧ x ≤ 255) := ⟨fun x hx => HY1.out x (hm2 x hx)⟩
     have HY3 : Aside0 (∀ x ∈ b3, 0 ≤ x ∧ x ≤ 255) := ⟨fun x hx => HY2.out x (hm3 x hx)⟩
     have HY4 : Aside0 (∀ x ∈ b4, 0 ≤ x ∧ x ≤ 255) := ⟨fun x hx => HY3.out x (hm4 x hx)⟩
     have hB5 : b5.length ≤ b4.length ∧ ∀ x ∈ b5, 0 ≤ x ∧ x ≤ 255 := by
      have h := hn5
      split at h
      ·
       injection h with h1 h; injection h with h2 h3; subst h2; exact ⟨Nat.le_refl _, HY4.out⟩
      ·
       have h2 := rtS_bounds b4 d4; rw [h] at h2; exact ⟨h2.1, fun x hx => HY4.out x (h2.2.1 x hx)⟩
     have HY5 := Aside0.mk hB5.2
     have hl5 := hB5.1
     have HN1 := Aside0.mk hn1
     have HN2 := Aside0.mk hn2
     have HN3 := Aside0.mk hn3
     have HN4 := Aside0.mk hn4
     have HN5 := Aside0.mk hn5
     have HO2 := Aside0.mk hO
     have HD := Aside0.mk hd
     clear hn1 hn2 hn3 hn4 hn5 hO hm1' hm2 hm3 hm4 hB5 HO HN HMEM hd
     have hcat : (9223372036854775807 < p.toNat + s.size) = False := eq_false (by omega)
     have hlsw : IntKind.u64.wrap (last.size : Int) = (last.size : Int) := u64w_in (by omega) (by omega)
     have p38 : IntKind.i64.wrap p = p := by rw [IntKind.wrap_i64]; omega
     have q51 : IntKind.i64.wrap q = q := by rw [IntKind.wrap_i64]; omega
     go_wp2_with fail
     refine (Number_calls w.heap.size A c b false last.size _ HL.out.box (Kd.C_below HC.out HL.out.bel) hc (by omega) HYb.out (by omega) (by omega)).mono ?_
     rw [HN1.out]
     rintro e w2 ⟨rfl, A1, c1, hb_, hC_, hc1, hg_⟩
     dsimp only at hb_ hC_ hc1 ⊢
     have HL := Aside0.mk (HL.out.call hb_ hg_)
     have HC1 := Aside0.mk (hC_ w HC.out)
     clear hb_ hC_ hg_
     go_upto_region 12 with (fail)
     have HZ : Aside0 (ZSt 59 w w.heap.size u5 acc w2.heap.size #[.string (last.extract 0 p.toNat), .int .i64 0, .bool false, .string (⟨#[]⟩ : ByteArray)] A1 b1.length c1 d1 (w2.alloc (.cells #[.string (last.extract 0 p.toNat), .int .i64 0, .bool false, .string (⟨#[]⟩ : ByteArray)] 39))) := ⟨LSt.new HL.out (below_alloc (Below.refl _ _) _) rfl (blk_new w2 _)⟩
     generalize (w2.alloc (.cells #[.string (last.extract 0 p.toNat), .int .i64 0, .bool false, .string (⟨#[]⟩ : ByteArray)] 39)) = W3 at HZ ⊢
     generalize w2.heap.size = gb at HZ ⊢
     refine start_ (n := 7) (S := fun w' => w'.cell? ⟨gb, 0, none⟩ = some (.string (last.extract 0 p.toNat))) (ds := [6]) (b_ 7 0) (by kernel_rfl) rfl rfl (((ZSt.drew HZ.out).cell 0).trans rfl) (fun hHeld => ?_)
     have n_ := Aside0.mk (ZSt.drew HZ.out)
     have HZ := n_
     generalize W3.drew = ws at HZ hHeld ⊢
     refine pure_ (i := 0) (N := some 43) (v := ?_) (a' := ?_) (b_ 7 1) rfl rfl (by kernel_rfl) (fun _ _ _ h => h) (Or.inl ⟨by rfl, ?_⟩) ?_ ?_
     rotate_left
     ·
      intro w'
      go_simp
      with_reducible rfl
     rotate_left
     ·
      simp only [Act.put, sa_, s0_, s1_, i64_w, i32_w]
      rfl
     refine pure_ (i := 2) (N := some 45) (v := ?_) (a' := ?_) (b_ 7 5) rfl rfl (by kernel_rfl) (fun _ _ _ h => h) (Or.inl ⟨by rfl, ?_⟩) ?_ ?_
     rotate_left
     ·
      intro w'
      go_simp
      with_reducible rfl
     rotate_left
     ·
      simp only [Act.put, sa_, s0_, s1_, i64_w, i32_w]
      rfl
     refine take_ (i := 1) (N := some 44) (v := ?_) (a' := ?_) (b_ 7 7) rfl rfl (by kernel_rfl) (fun _ _ _ h => h) (Or.inl ⟨by rfl, ?_⟩) hHeld ?_ ?_
     rotate_left
     ·
      intro w' s0
      go_simp
      with_reducible rfl
     rotate_left
     ·
      simp only [Act.put, sa_, s0_, s1_, i64_w, i32_w]
      rfl
     refine one_ (i := 3) (N := some 46) (b_ 7 15) rfl rfl (by kernel_rfl) (by decide) (fun K hK => ?_)
     refine goes_ Try.func30 (by kernel_rfl) rfl #[.pointer (some ⟨w.heap.size, 0, none⟩)] (by rfl) rfl rfl (by simp only [List.map_toArray, List.map_cons, List.map_nil]; rfl) ?_
     with_reducible refine (Text_calls w.heap.size A1 c1 b1 d1 _ HZ.out.box (Kd.C_below HC1.out HZ.out.bel) hc1 (by omega) HY1.out).mono ?_
     rw [HN2.out]
     rintro e w4 ⟨rfl, A2, c2, hb_, hC_, hc2, hg_⟩
     dsimp only at hb_ hC_ hc2
     refine ⟨_, rfl, ?_⟩
     have HZ := Aside0.mk (HZ.out.call hb_ hg_)
     have HC2 := Aside0.mk (hC_ w HC1.out)
     clear hb_ hC_ hg_
     have hz0 := (HZ.out.cell 0).trans rfl
     have hzf0 := HZ.out.fr 0
     refine hK.out _ _ ((HZ.out.cell 0).trans rfl) (fun hHeld => ?_)
     clear hK K
     refine norm_ (a' := ?_) ?_ ?_
     rotate_left
     ·
      show Act.put _ (some 46) _ = _
      simp only [Act.put, sa_, s0_, s1_, i64_w, i32_w]
      rfl
     refine pure_ (i := 4) (N := some 47) (v := ?_) (a' := ?_) (b_ 7 31) rfl rfl (by kernel_rfl) (fun _ _ _ h => h) (Or.inl ⟨by rfl, ?_⟩) ?_ ?_
     rotate_left
     ·
      intro w'
      go_simp
      with_reducible rfl
     rotate_left
     ·
      simp only [Act.put, sa_, s0_, s1_, i64_w, i32_w]
      rfl
     refine pure_ (i := 5) (N := some 48) (v := ?_) (a' := ?_) (b_ 7 63) rfl rfl (by kernel_rfl) (fun _ _ _ h => h) (Or.inl ⟨by rfl, ?_⟩) ?_ ?_
     rotate_left
     ·
      intro w'
      go_simp
      with_reducible rfl
     rotate_left
     ·
      simp only [Act.put, sa_, s0_, s1_, i64_w, i32_w]
      rfl
     refine last_ (i := 6) (N := none) (b_ 7 127) rfl rfl (by kernel_rfl) (by decide) (fun K hK => ?_)
     refine skip_ (w1 := ?_) (by rfl) rfl ?_ ?_
     rotate_left
     ·
      go_simp
      rfl
     refine hK.out _ _ ?_
     clear hK K
     refine done_ (by kernel_rfl) ?_
     obtain ⟨W5, hW5⟩ : ∃ W5, W5 = (w4.setCell ⟨gb, 0, none⟩ (.string (last.extract 0 p.toNat ++ s))) := ⟨_, rfl⟩
     have HZ5 : Aside0 (ZSt 59 w w.heap.size u5 acc gb #[.string (last.extract 0 p.toNat ++ s), .int .i64 0, .bool false, .string (⟨#[]⟩ : ByteArray)] A2 b2.length c2 d2 W5) := ⟨by rw [hW5]; exact HZ.out.set 0 _ rfl⟩
     rw [← hW5]
     obtain ⟨key, hkey⟩ : ∃ key, key = last.extract 0 p.toNat ++ s := ⟨_, rfl⟩
     rw [← hkey] at HO2 HZ5 ⊢
     have HKEY := Aside0.mk hkey
     clear hW5 hz0 hzf0 HL HZ hHeld HN1 HN2 hkey
     go_wp2_with fail
     refine (Number_calls w.heap.size A2 c2 b2 d2 1099511627776 _ HZ5.out.box (Kd.C_below HC2.out HZ5.out.bel) hc2 (by omega) HY2.out (by decide) (by decide)).mono ?_
     rw [HN3.out]
     rintro e w6 ⟨rfl, A3, c3, hb_, hC_, hc3, hg_⟩
     dsimp only at hb_ hC_ hc3 ⊢
     have HZ6 := Aside0.mk (HZ5.out.call hb_ hg_)
     have HC3 := Aside0.mk (hC_ w HC2.out)
     clear hb_ hC_ hg_
     have hz1 := (HZ6.out.cell 1).trans rfl
     have hzf1 := HZ6.out.fr 1
     have HZ7 := Aside0.mk (HZ6.out.set 1 (.int .i64 q) rfl)
     go_wp2_with fail
     refine (Byte_calls w.heap.size A3 c3 b3 d3 _ HZ7.out.box (Kd.C_below HC3.out HZ7.out.bel) hc3 (by omega)).mono ?_
     rw [HN4.out]
     rintro e w8 ⟨rfl, A4, c4, hb_, hC_, hc4, hg_⟩
     dsimp only at hb_ hC_ hc4 ⊢
     have HZ8 := Aside0.mk (HZ7.out.call hb_ hg_)
     have HC4 := Aside0.mk (hC_ w HC3.out)
     clear hb_ hC_ hg_ hz1 hzf1
     have hz2 := (HZ8.out.cell 2).trans rfl
     have hzf2 := HZ8.out.fr 2
     have HZ9 := Aside0.mk (HZ8.out.set 2 (.bool (d == 1)) rfl)
     go_upto_if 59 with (fail)
     generalize (w8.setCell ⟨gb, 2, none⟩ (.bool (d == 1))) = W9 at HZ9 ⊢
     clear hz2 hzf2 HZ5 HZ6 HZ7 HZ8
     go_cut [] (fun wc => ∃ (A5 : Option Addr) (c5 : Nat), Aside0 (ZSt 59 w w.heap.size u5 acc gb #[.string key, .int .i64 q, .bool (d == 1), .string v] A5 b5.length c5 d5 wc) ∧ Aside0 (Kd.C (Kd.int .u8) w A5 b5.length b5) ∧ b5.length ≤ c5)
     case first =>
      by_cases hd1 : d = 1
      ·
       have hn5 := HN5.out
       rw [if_pos hd1] at hn5
       injection hn5 with e1 e2
       injection e2 with e2 e3
       subst e1 e2 e3
       have hd2 : (d == 1) = true := beq_iff_eq.mpr hd1
       rw [hd2] at HZ9 ⊢
       clear hd1
       go_wp2
       go_meet
       case rel => exact ⟨A4, c4, ⟨by rw [hd2]; exact HZ9.out⟩, HC4, hc4⟩
      ·
       have hn5 := HN5.out
       rw [if_neg hd1] at hn5
       have HN6 := Aside0.mk hn5
       have hd2 : (d == 1) = false := beq_eq_false_iff_ne.mpr hd1
       rw [hd2] at HZ9 ⊢
       clear hd1 hn5
       go_wp2_with fail
       refine (Text_calls w.heap.size A4 c4 b4 d4 _ HZ9.out.box (Kd.C_below HC4.out HZ9.out.bel) hc4 (by omega) HY4.out).mono ?_
       rw [HN6.out]
       rintro e w7 ⟨rfl, A5, c5, hb_, hC_, hc5, hg_⟩
       dsimp only at hb_ hC_ hc5 ⊢
       have HZ7 := Aside0.mk (HZ9.out.call hb_ hg_)
       have HC5 := Aside0.mk (hC_ w HC4.out)
       clear hb_ hC_ hg_
       have hz3 := (HZ7.out.cell 3).trans rfl
       have hzf3 := HZ7.out.fr 3
       go_wp2
       go_meet
       case rel => exact ⟨A5, c5, ⟨by rw [hd2]; exact HZ7.out.set 3 _ rfl⟩, HC5, hc5⟩
     case rest =>
      obtain ⟨A5, c5, HZ7, HC5, hc5⟩ := hcut
      clear HZ9 HC4 HN5
      have hk0 := (HZ7.out.cell 0).trans rfl
      have hk2 := (HZ7.out.cell 1).trans rfl
      have hk3 := (HZ7.out.cell 2).trans rfl
      have hk4 := (HZ7.out.cell 3).trans rfl
      by_cases hks : 64 < key.size
      ·
       have HE : Aside0 (([] : List EnT) = r1 ∧ (8 : Int) = r2) := ⟨by
        have h := HJ.out
        rw [← HO2.out, if_pos hks] at h
        exact ⟨(Prod.mk.inj h).1, (Prod.mk.inj h).2⟩⟩
       obtain ⟨rfl, rfl⟩ := HE.out
       have hks1 : decide (64 < (key.size : Int)) = true := decide_eq_true (by omega)
       clear hjl
       go_wp2
       go_ret2
       exact ⟨_, rfl, Kd.R_nil _ _ _ _ _, HZ7.out.bel⟩
      ·
       have hks1 : decide (64 < (key.size : Int)) = false := decide_eq_false (by omega)
       have HO4 : Aside0 (refFrom dd key b5 d5 (acc ++ [⟨key, q, d == 1, v⟩]) = refFrom m ⟨#[]⟩ b0 bad0 []) := ⟨by
        rw [← HO2.out, if_neg hks]⟩
       go_wp2_with (first
        | ((with_reducible refine gate_builtin (b := .append) (xs := #[.tmp 69, .tmp 71]) rfl ?_); at_builtin; refine Kd.R_append k39 (w0 := w) w.heap.size rfl (.tmp 69) (.tmp 71) 22 39 (.agg #[(.string ⟨#[]⟩), (.int .i64 0), (.bool false), (.string ⟨#[]⟩)]) 48 rfl Try.underlying22 info39 rfl (by decide) (by omega) u5 acc (⟨key, q, d == 1, v⟩ : EnT) [.string key, .int .i64 q, .bool (d == 1), .string v] (fun k => (w.heap.size ≤ k ∧ k ≠ w.heap.size) ∧ k ≠ gb) (fun _ => False) rfl (by first | (go_simp; done) | (go_simp; rfl)) ?aP (fun _ hk => hk.elim) ?aF ?aO ?aB ?aS ?aL ?_; (case aP => exact k39_mkM _ _ _ (⟨key, q, d == 1, v⟩ : EnT)); (case aF => exact fun k hk => ⟨⟨by have := HZ7.out.box.lt; omega, by have := HZ7.out.box.lt; omega⟩, by have := blk_lt HZ7.out.blk; omega⟩); (case aO => exact HZ7.out.own); (case aB => exact HZ7.out.bel); (case aS => exact below_size HZ7.out.bel); (case aL => omega); intro v6 w8 ho hb hg hat; have HL8 := Aside0.mk (HZ7.out.app ho hb hg); clear ho hb hg hat hk0 hk2 hk3 hk4 HZ7))
       refine ⟨⟨j + 1, b5, key, acc ++ [⟨key, q, d == 1, v⟩], A5, c5, d5, by first | rfl | simp, rfl, by omega, by rw [List.length_append, hjl]; rfl, by omega, hc5, by omega, ⟨by rw [show m - (j + 1) = dd by have := HD.out; omega]; exact HO4.out⟩, HY5, HC5, HL8⟩, ?_⟩
       show m - ((j : Int) + 1).toNat < m - ((j : Int)).toNat
       omega
   ·
    have hj1 : decide ((j : Int) < (m : Int)) = false := decide_eq_false (by omega)
    obtain rfl : j = m := by omega
    have HJ2 : Aside0 ((if bad = true ∨ (writeS acc).2 ≠ 0 ∨ (writeS acc).1 ≠ l0 then ([], 8) else (acc, 0)) = (r1, r2)) := ⟨by
     have h := HJ.out
     rw [← HO.out, Nat.sub_self, refFrom] at h
     exact h⟩
    have HBAD : Aside0 ((bad = true ∨ (writeS acc).2 ≠ 0 ∨ (writeS acc).1 ≠ l0) → ([] : List EnT) = r1 ∧ (8 : Int) = r2) := ⟨fun e => by
     have h := HJ2.out
     rw [if_pos e] at h
     exact ⟨(Prod.mk.inj h).1, (Prod.mk.inj h).2⟩⟩
    obtain ⟨Av, cv, hv, hcv, hCv⟩ := Kd.R_reads HL.out.own
    subst hv
    obtain ⟨kw, hkw⟩ := (ref12_Write_ev acc (by omega)).rounds
    have HKW := Aside0.mk (show millhandref12_Write.f kw acc = some ((writeS acc).1, (writeS acc).2) from hkw)
    have HCV := Aside0.mk hCv
    have hal : acc.length ≤ 1024 := by omega
    have hbb := HL.out.box.c1
    clear hkw hCv HO HJ HN HMEM hjl hm1 hm0 hj
    cases hbad : bad with
    | true =>
     obtain ⟨rfl, rfl⟩ := HBAD.out (Or.inl hbad)
     rw [hbad] at hbb
     go_wp2
     go_ret2
     exact ⟨_, rfl, Kd.R_nil _ _ _ _ _, HL.out.bel⟩
    | false =>
     subst hbad
     go_wp2_with fail
     refine (millhandref12_Write.calls kw Av cv acc _ _ _ HCV.out hcv HKW.out).mono ?_
     rintro e w9 ⟨va, rfl, hRa, hb9⟩
     have HL9 : Aside0 (LSt 59 w w.heap.size (.slice Av acc.length cv) acc A b.length c false w9) := ⟨⟨HL.out.box.below hb9, Kd.R_below HL.out.own hb9, below_step HL.out.bel hb9, HL.out.le⟩⟩
     have hcv1 := own_string (P := Try.prog) Try.underlying23 Try.underlying5 Try.underlying9 (Kd.own_of_R hRa)
     have hcv2 := C_string_ (P := Try.prog) (A := A0) (c := c0) Try.underlying23 Try.underlying5 Try.underlying9 (Kd.C_below HR0.out HL9.out.bel)
     clear hRa hb9 HL HCV HKW hbb
     by_cases hw2 : (writeS acc).2 = 0
     ·
      have hw2b : ((writeS acc).2 != 0) = false := bne_eq_false_iff_eq.mpr hw2
      have hsame := same_bytes (writeS_range acc) HY.out
      by_cases hw1 : (writeS acc).1 = l0
      ·
       have HE : Aside0 (acc = r1 ∧ (0 : Int) = r2) := ⟨by
        have h := HJ2.out
        rw [if_neg (by rintro (h | h | h); cases h; exact h hw2; exact h hw1)] at h
        exact ⟨(Prod.mk.inj h).1, (Prod.mk.inj h).2⟩⟩
       obtain ⟨-, rfl⟩ := HE.out
       rw [decide_eq_true hw1] at hsame
       have hne : ((strOfNums (writeS acc).1).toList != (strOfNums l0).toList) = false := by unfold bne; rw [hsame]; rfl
       clear hw2 hw1
       go_wp2
       go_ret2
       refine ⟨_, rfl, ?_, HL9.out.bel⟩
       rw [← HE.out.1]
       exact Kd.R_mono HL9.out.own (fun _ _ => trivial)
      ·
       obtain ⟨rfl, rfl⟩ := HBAD.out (Or.inr (Or.inr hw1))
       rw [decide_eq_false hw1] at hsame
       have hne : ((strOfNums (writeS acc).1).toList != (strOfNums l0).toList) = true := by unfold bne; rw [hsame]; rfl
       clear hw2 hw1
       go_wp2
       go_ret2
       exact ⟨_, rfl, Kd.R_nil _ _ _ _ _, HL9.out.bel⟩
     ·
      obtain ⟨rfl, rfl⟩ := HBAD.out (Or.inr (Or.inl hw2))
      have hw2b : ((writeS acc).2 != 0) = true := bne_iff_ne.mpr hw2
      clear hw2
      go_wp2
      go_ret2
      exact ⟨_, rfl, Kd.R_nil _ _ _ _ _, HL9.out.bel⟩


end Go.Proofs.Ytpalnbdcemmlnaa.R
