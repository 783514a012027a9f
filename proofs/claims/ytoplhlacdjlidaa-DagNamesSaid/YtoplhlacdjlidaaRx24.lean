/- Contracts of Go functions and what they come to, over the translation of this seat: made by a program of this session (print2.py). -/
import Derived.Test.YtoplhlacdjlidaaRRD
import Derived.Test.YtoplhlacdjlidaaRx0
import Derived.Test.YtoplhlacdjlidaaRx5
namespace Go.Proofs.Ytoplhlacdjlidaa.R
open Go.RowKit Go.Proofs.Ytoplhlacdjlidaa.Co Go.Proofs.Ytoplhlacdjlidaa.Ret Go.Proofs.Ytoplhlacdjlidaa.Plain Go.Proofs.YtoplhlacdjlidaaW.PrintWords Go.Proofs.YtoplhlacdjlidaaW.PrintLast Go.Proofs.YtoplhlacdjlidaaW.PrintMore
attribute [local go_sem] max2_int min2_int max_two min_two max_three min_three max_four min_four   -- for this text's walks alone
set_option linter.unusedVariables false
set_option linter.unusedSimpArgs false

/-! ### dag_Read: function 9 -/
def dag_Read.f (l0 : List Int) : Option ((List (S40)) × Int) := if (∀ x ∈ l0, 0 ≤ x ∧ x ≤ 255) ∧ l0.length ≤ 140737488351232 then some (readD l0) else none
set_option maxHeartbeats 8000000 in
set_option maxRecDepth 100000 in
theorem dag_Read.calls (A0 : Option Addr) (c0 : Nat) (l0 : List Int) (r1 : List (S40)) (r2 : Int) (w : World) (hr0 : Kd.C (Kd.int .u8) w A0 l0.length l0) (hc0 : l0.length ≤ c0) (h : dag_Read.f l0 = some (r1, r2)) :
  Calls Try.prog 9 #[.slice A0 l0.length c0] w fun e w' => ∃ v0_ : Value, e = .returned (.tuple #[.agg #[v0_], .int .i64 r2]) ∧ Kd.S k40 40 w' w.heap.size (fun _ => True) v0_ r1 ∧ Below w.heap.size w w' := by
 unfold dag_Read.f at h
 split at h
 case isFalse => cases h
 rename_i hcond
 obtain ⟨hy, hlen⟩ := hcond
 have hres : readD l0 = (r1, r2) := Option.some.inj h
 clear h
 have hu25 := Try.underlying25
 have hu40 := Try.underlying40
 have HX := Aside0.mk hres
 have HR0 := Aside0.mk hr0
 have HY := Aside0.mk hy
 clear hres hr0 hy
 by_cases hbig : 16384 < l0.length
 ·
  have e : ([] : List NodeT) = r1 ∧ (3 : Int) = r2 := by
   have h := HX.out
   unfold readD at h
   rw [if_pos hbig] at h
   exact ⟨(Prod.mk.inj h).1, (Prod.mk.inj h).2⟩
  obtain ⟨rfl, rfl⟩ := e
  have c1 : decide (16384 < (l0.length : Int)) = true := decide_eq_true (by omega)
  go_enter Try.func9, Try.ntmps9
  go_wp2_with (first | ((with_reducible refine gate_dst (N := 2) rfl ?_); refine box_event ?hg (N := 2) ?hd (cs := #[.slice none 0 0]) (t := 25) ?hr ?_; (case hd => rfl); (case hg => rfl); (case hr => first | (go_simp; done) | (go_simp; rfl)); intro gr hgr w1 hb1 hB1; have BR := Aside0.mk hb1; have HB := Aside0.mk hB1; have GR := Aside0.mk hgr; clear hb1 hB1 hgr; have hcz : w1.cell? ⟨gr, 0, none⟩ = some (.slice none 0 0) := (blk_cell BR.out 0).trans rfl; have hfz := blk_frozen BR.out 0))
  refine bodyPost_ret (results_ct rfl _ _ gr 25 #[.slice none 0 0] (0, 0) _ rfl (by refine blk_put (cs := #[.slice none 0 0]) ?_ 0 _ rfl; exact BR.out) Try.underlying25 rfl (by kernel_rfl)) rfl ?_
  exact ⟨_, rfl, Kd.S_nil _ _ _ _ _, below_set HB.out (Nat.le_of_eq GR.out.symm)⟩
 ·
  have c1 : decide (16384 < (l0.length : Int)) = false := decide_eq_false (by omega)
  have hnb := numD_bounds 12 (by decide) l0 true
  obtain ⟨m0, b0, ok0, hn⟩ : ∃ m0 b0 ok0, numD 12 l0 true = (m0, b0, ok0) := ⟨_, _, _, rfl⟩
  rw [hn] at hnb
  obtain ⟨hm0, hm1, hl1, hmem⟩ := hnb
  dsimp only at hm0 hm1 hl1 hmem
  obtain ⟨m, rfl⟩ := Int.eq_ofNat_of_zero_le hm0
  have HJ : Aside0 ((match nodesD m [] b0 ok0 with
   | (x, l2, o2) => if o2 = false ∨ 0 < l2.length ∨ checkS x ≠ 0 then ([], 8) else (x, 0)) = (r1, r2)) := ⟨by
    have h := HX.out
    unfold readD at h
    rw [if_neg hbig, hn] at h
    exact h⟩
  have HN := Aside0.mk hn
  have HMEM : Aside0 (∀ x ∈ b0, 0 ≤ x ∧ x ≤ 255) := ⟨fun x hx => HY.out x (hmem x hx)⟩
  clear HX hn hmem
  go_enter Try.func9, Try.ntmps9
  go_wp2_with (first | ((with_reducible refine gate_dst (N := 2) rfl ?_); refine box_event ?hg (N := 2) ?hd (cs := #[.slice none 0 0]) (t := 25) ?hr ?_; (case hd => rfl); (case hg => rfl); (case hr => first | (go_simp; done) | (go_simp; rfl)); intro gr hgr w1 hb1 hB1; have BR := Aside0.mk hb1; have HB := Aside0.mk hB1; have GR := Aside0.mk hgr; clear hb1 hB1 hgr) | ((with_reducible refine gate_dst (N := 13) rfl ?_); refine box_event ?hg (N := 13) ?hd (cs := #[.slice A0 l0.length c0, .bool true]) (t := 60) ?hr ?_; (case hd => rfl); (case hg => rfl); (case hr => first | (go_simp; done) | (go_simp; rfl)); intro g hg w2 hb2 hB2; have BG := Aside0.mk hb2; have HB2 := Aside0.mk hB2; have GG := Aside0.mk hg; clear hb2 hB2 hg) | ((with_reducible refine gate_dst (N := 5) rfl ?_); refine box_event ?hg (N := 5) ?hd (cs := #[.slice none 0 0]) (t := 25) ?hr ?_; (case hd => rfl); (case hg => rfl); (case hr => first | (go_simp; done) | (go_simp; rfl)); intro gs hgs w3 hb3 hB3; have D0 := Aside0.mk (DSt.start GR.out BR.out HB.out GG.out BG.out HB2.out hgs hb3 hB3); clear hb3 hB3 hgs GR BR HB GG BG HB2))
  refine (num_calls g A0 c0 l0 true 12 _ D0.out.box (Kd.C_below HR0.out D0.out.bel) hc0 (by omega) HY.out (by decide) (by decide)).mono ?_
  rw [HN.out]
  rintro e w4 ⟨rfl, A, c, hb_, hC_, hc, hg_⟩
  dsimp only at hb_ hC_ hc ⊢
  have D1 := Aside0.mk (D0.out.call hb_ hg_)
  have HC := Aside0.mk (hC_ w HR0.out)
  clear hb_ hC_ hg_ D0
  go_wp2_with fail
  go_loopw [16] (fun v16 w' => ∃ (j : Nat) (b : List Int) (acc : List NodeT) (v : Value) (A : Option Addr) (c : Nat) (ok : Bool), v16 = .int .i64 (j : Int) ∧ j ≤ m ∧ Aside0 (acc.length = j) ∧ b.length ≤ c ∧ b.length ≤ 16384 ∧ Aside0 (nodesD (m - j) acc b ok = nodesD m [] b0 ok0) ∧ Aside0 (∀ x ∈ b, 0 ≤ x ∧ x ≤ 255) ∧ Aside0 (Kd.C (Kd.int .u8) w A b.length b) ∧ Aside0 (DSt w gr g gs v acc A b.length c ok w') ∧ Aside0 (∀ y ∈ acc, y.f0.length ≤ 12)) (fun v16 w' => m - (match v16 with | .int _ j => j.toNat | _ => 0))
  case atStart => exact ⟨0, b0, [], _, A, c, ok0, rfl, Nat.zero_le _, ⟨rfl⟩, hc, by omega, ⟨rfl⟩, HMEM, HC, D1, ⟨fun y hy => by cases hy⟩⟩
  case round =>
   clear D1 HC HMEM HN hc
   obtain ⟨j, b, acc, v, A, c, ok, rfl, hjm, HJL, hc, hbl, HO, HYb, HC, HL, HFA⟩ := hrel
   by_cases hj : j < m
   ·
    have hj1 : decide ((j : Int) < (m : Int)) = true := decide_eq_true (by omega)
    have hj1n : decide (j < m) = true := decide_eq_true hj
    obtain ⟨dd, hd⟩ : ∃ dd, m - j = dd + 1 := ⟨m - j - 1, by omega⟩
    have hO := HO.out
    rw [hd, nodesD] at hO
    obtain ⟨p, b1, o1, hn1⟩ : ∃ p b1 o1, numD 12 b ok = (p, b1, o1) := ⟨_, _, _, rfl⟩
    have hB1 := numD_bounds 12 (by decide) b ok
    rw [hn1] at hB1
    obtain ⟨hp0, hp1, hl1', hm1'⟩ := hB1
    dsimp only at hp0 hp1 hl1' hm1'
    obtain ⟨q, rfl⟩ := Int.eq_ofNat_of_zero_le hp0
    obtain ⟨x, b2, o2, hn2⟩ : ∃ x b2 o2, needsD q [] b1 o1 = (x, b2, o2) := ⟨_, _, _, rfl⟩
    obtain ⟨t, b3, o3, hn3⟩ : ∃ t b3 o3, numD 5 b2 o2 = (t, b3, o3) := ⟨_, _, _, rfl⟩
    obtain ⟨z, b4, o4, hn4⟩ : ∃ z b4 o4, numD 1048576 b3 o3 = (z, b4, o4) := ⟨_, _, _, rfl⟩
    have hnode : nodeD b ok = (⟨x, t, z⟩, b4, o4) := by
     unfold nodeD
     rw [hn1]
     dsimp only
     rw [Int.toNat_natCast, hn2]
     dsimp only
     rw [hn3]
     dsimp only
     rw [hn4]
    rw [hnode] at hO
    have HY1 : Aside0 (∀ x ∈ b1, 0 ≤ x ∧ x ≤ 255) := ⟨fun x hx => HYb.out x (hm1' x hx)⟩
    have HN1 := Aside0.mk hn1
    have HN2 := Aside0.mk hn2
    have HN3 := Aside0.mk hn3
    have HN4 := Aside0.mk hn4
    have HO2 := Aside0.mk hO
    clear hn1 hn2 hn3 hn4 hO hm1' hnode HO hp0
    go_wp2_with ((with_reducible refine gate_dst (N := 6) rfl ?_); refine box_event ?hg (N := 6) ?hd (cs := #[.slice none 0 0, .int .i64 0, .int .i64 0]) (t := 40) ?hr ?_; (case hd => rfl); (case hg => rfl); (case hr => first | (go_simp; done) | (go_simp; rfl)); intro gn hgn w5 hb5 hB5; have Z0 := Aside0.mk (DSt.new HL.out hB5 hgn hb5); clear hb5 hB5 hgn HL)
    refine (num_calls g A c b ok 12 _ Z0.out.box (Kd.C_below HC.out Z0.out.bel) hc (by omega) HYb.out (by decide) (by decide)).mono ?_
    rw [HN1.out]
    rintro e w6 ⟨rfl, A1, c1', hb_, hC_, hc1, hg_⟩
    dsimp only at hb_ hC_ hc1 ⊢
    have Z1 := Aside0.mk (Z0.out.call hb_ hg_)
    have HC1 := Aside0.mk (hC_ w HC.out)
    clear hb_ hC_ hg_ Z0 HC HYb hc
    go_wp2_with fail
    go_loopw [20] (fun v20 w' => ∃ (i : Nat) (l : List Int) (x' : List Int) (u : Value) (A : Option Addr) (c : Nat) (o : Bool), v20 = .int .i64 (i : Int) ∧ i ≤ q ∧ Aside0 (x'.length = i) ∧ l.length ≤ c ∧ l.length ≤ 16384 ∧ Aside0 (needsD (q - i) x' l o = (x, b2, o2)) ∧ Aside0 (∀ x ∈ l, 0 ≤ x ∧ x ≤ 255) ∧ Aside0 (Kd.C (Kd.int .u8) w A l.length l) ∧ Aside0 (NSt w gr g gs gn v acc #[u, .int .i64 0, .int .i64 0] u x' A l.length c o w')) (fun v20 w' => q - (match v20 with | .int _ j => j.toNat | _ => 0))
    case atStart => exact ⟨0, b1, [], _, A1, c1', o1, rfl, Nat.zero_le _, ⟨rfl⟩, hc1, by omega, HN2, HY1, HC1, Z1⟩
    case round =>
     clear Z1 HC1 HY1 HN1 HN2 hc1
     obtain ⟨i, l, x', u, A, c, o, rfl, hiq, HIL, hc, hll, HO, HYl, HC, HZ⟩ := hrel
     by_cases hi : i < q
     ·
      have hi1 : decide ((i : Int) < (q : Int)) = true := decide_eq_true (by omega)
      have hi1n : decide (i < q) = true := decide_eq_true hi
      obtain ⟨de, he⟩ : ∃ de, q - i = de + 1 := ⟨q - i - 1, by omega⟩
      have hO := HO.out
      rw [he, needsD] at hO
      obtain ⟨p, l1, o1, hn1⟩ : ∃ p l1 o1, numD 12 l o = (p, l1, o1) := ⟨_, _, _, rfl⟩
      have hB1 := numD_bounds 12 (by decide) l o
      rw [hn1] at hB1 hO
      obtain ⟨hp0, hp1, hl1', hm1'⟩ := hB1
      dsimp only at hp0 hp1 hl1' hm1' hO
      have HY1 : Aside0 (∀ x ∈ l1, 0 ≤ x ∧ x ≤ 255) := ⟨fun x hx => HYl.out x (hm1' x hx)⟩
      have HN1 := Aside0.mk hn1
      have HO1 := Aside0.mk hO
      clear hn1 hm1' hO HO
      go_wp2_with fail
      refine start_ (n := 8) (S := fun w' => w'.cell? ⟨gn, 0, none⟩ = some u) (ds := [7]) (b_ 8 0) (by kernel_rfl) rfl rfl ((HZ.out.cell 0).trans rfl) (fun hHeld => ?_)
      have n_ := Aside0.mk (NSt.drew HZ.out)
      have HZ := n_
      clear n_
      generalize wr.drew = ws at HZ hHeld ⊢
      refine pure_ (i := 0) (N := some 22) (v := ?_) (a' := ?_) (b_ 8 1) rfl rfl (by kernel_rfl) (fun _ _ _ h => h) (Or.inl ⟨by rfl, ?_⟩) ?_ ?_
      rotate_left
      ·
       intro w'
       go_simp
       with_reducible rfl
      rotate_left
      ·
       simp only [Act.put, sa_, s0_, s1_, i64_w, i32_w]
       rfl
      refine pure_ (i := 2) (N := some 24) (v := ?_) (a' := ?_) (b_ 8 5) rfl rfl (by kernel_rfl) (fun _ _ _ h => h) (Or.inl ⟨by rfl, ?_⟩) ?_ ?_
      rotate_left
      ·
       intro w'
       go_simp
       with_reducible rfl
      rotate_left
      ·
       simp only [Act.put, sa_, s0_, s1_, i64_w, i32_w]
       rfl
      refine take_ (i := 1) (N := some 23) (v := ?_) (a' := ?_) (b_ 8 7) rfl rfl (by kernel_rfl) (fun _ _ _ h => h) (Or.inl ⟨by rfl, ?_⟩) hHeld ?_ ?_
      rotate_left
      ·
       intro w' s0
       go_simp
       with_reducible rfl
      rotate_left
      ·
       simp only [Act.put, sa_, s0_, s1_, i64_w, i32_w]
       rfl
      refine one_ (i := 3) (N := some 25) (b_ 8 15) rfl rfl (by kernel_rfl) (by decide) (fun K hK => ?_)
      refine goes_ Try.func32 (by kernel_rfl) rfl #[.pointer (some ⟨g, 0, none⟩), .int .i64 12] (by rfl) rfl rfl (by simp only [List.map_toArray, List.map_cons, List.map_nil]; rfl) ?_
      with_reducible refine (num_calls g A c l o 12 _ HZ.out.box (Kd.C_below HC.out HZ.out.bel) hc (by omega) HYl.out (by decide) (by decide)).mono ?_
      rw [HN1.out]
      rintro e w7 ⟨rfl, A1, c1', hb_, hC_, hc1, hg_⟩
      dsimp only at hb_ hC_ hc1
      refine ⟨_, rfl, ?_⟩
      have HZ2 := Aside0.mk (HZ.out.call hb_ hg_)
      have HC1 := Aside0.mk (hC_ w HC.out)
      clear hb_ hC_ hg_
      refine hK.out _ _ ((HZ2.out.cell 0).trans rfl) (fun hHeld => ?_)
      clear hK K
      refine norm_ (a' := ?_) ?_ ?_
      rotate_left
      ·
       show Act.put _ (some 25) _ = _
       simp only [Act.put, sa_, s0_, s1_, i64_w, i32_w]
       rfl
      refine one_ (i := 4) (N := some 26) (b_ 8 31) rfl rfl (by kernel_rfl) (by decide) (fun K hK => ?_)
      refine value_ (w1 := ?_) (v := ?_) (by rfl) rfl ?_ ?_
      rotate_left 2
      ·
       go_simp
       constructor
       ·
        rfl
       ·
        rfl
      refine hK.out _ _ (((HZ2.out.below (below_alloc (Below.refl _ _) _)).cell 0).trans rfl) (fun hHeld => ?_)
      clear hK K
      refine norm_ (a' := ?_) ?_ ?_
      rotate_left
      ·
       show Act.put _ (some 26) _ = _
       simp only [Act.put, sa_, s0_, s1_, i64_w, i32_w]
       rfl
      refine one_ (i := 5) (N := some 27) (b_ 8 63) rfl rfl (by kernel_rfl) (by decide) (fun K hK => ?_)
      refine Kd.R_append_step (Kd.int .i64) (w0 := w) w.heap.size (by rfl) (.tmp 23) (.tmp 26) 35 3 (.int .i64 0) 8 rfl Try.underlying35 info3 rfl (by decide) (by omega) u x' p [.int .i64 p] (fun k => w.heap.size ≤ k) (fun _ => False) rfl rfl ?aP (fun _ hk => hk.elim) ?aF ?aO ?aB ?aS ?aL ?_
      (case aP => exact rfl)
      (case aF => exact fun k hk => Nat.le_trans (below_size HZ2.out.bel) hk)
      (case aO => exact HZ2.out.nds)
      (case aB => exact HZ2.out.bel)
      (case aS => exact below_size HZ2.out.bel)
      (case aL => have := HIL.out; omega)
      intro u2 w8 ho hb hg hat
      have HZ3 := Aside0.mk (HZ2.out.app ho hb hg hat)
      clear ho hb hg hat
      obtain ⟨Au2, cu2, eu2⟩ := Kd.R_slice HZ3.out.nds
      subst eu2
      have hn0 := (HZ3.out.cell 0).trans rfl
      have hnf := HZ3.out.fr 0
      refine hK.out _ _ (hn0) (fun hHeld => ?_)
      clear hK K
      refine norm_ (a' := ?_) ?_ ?_
      rotate_left
      ·
       show Act.put _ (some 27) _ = _
       simp only [Act.put, sa_, s0_, s1_, i64_w, i32_w]
       rfl
      refine pure_ (i := 6) (N := some 28) (v := ?_) (a' := ?_) (b_ 8 127) rfl rfl (by kernel_rfl) (fun _ _ _ h => h) (Or.inl ⟨by rfl, ?_⟩) ?_ ?_
      rotate_left
      ·
       intro w'
       go_simp
       with_reducible rfl
      rotate_left
      ·
       simp only [Act.put, sa_, s0_, s1_, i64_w, i32_w]
       rfl
      refine last_ (i := 7) (N := none) (b_ 8 255) rfl rfl (by kernel_rfl) (by decide) (fun K hK => ?_)
      refine skip_ (w1 := ?_) (by rfl) rfl ?_ ?_
      rotate_left
      ·
       go_simp
       rfl
      refine hK.out _ _ ?_
      clear hK K
      refine done_ (by kernel_rfl) ?_
      go_wp2_with fail
      refine ⟨⟨i + 1, l1, x' ++ [p], .slice Au2 (x' ++ [p]).length cu2, A1, c1', o1, by simp, by omega, ⟨by rw [List.length_append, HIL.out]; rfl⟩, hc1, by omega, ⟨by rw [show q - (i + 1) = de by omega]; exact HO1.out⟩, HY1, HC1, ⟨HZ3.out.set 0 _ (by simp)⟩⟩, ?_⟩
      show q - ((i : Int) + 1).toNat < q - ((i : Int)).toNat
      omega
     ·
      have hi1 : decide ((i : Int) < (q : Int)) = false := decide_eq_false (by omega)
      have hi1n : decide (i < q) = false := decide_eq_false hi
      obtain rfl : i = q := by omega
      have hO := HO.out
      rw [Nat.sub_self, needsD] at hO
      have e1_ : x = x' := (Prod.mk.inj hO).1.symm
      have e2_ : b2 = l := (Prod.mk.inj (Prod.mk.inj hO).2).1.symm
      have e3_ : o2 = o := (Prod.mk.inj (Prod.mk.inj hO).2).2.symm
      clear hO HO
      subst x
      subst b2
      subst o2
      have hB3 := numD_bounds 5 (by decide) l o
      rw [HN3.out] at hB3
      obtain ⟨ht0, ht1, hl3, hm3⟩ := hB3
      dsimp only at ht0 ht1 hl3 hm3
      have HY3 : Aside0 (∀ x ∈ b3, 0 ≤ x ∧ x ≤ 255) := ⟨fun x hx => HYl.out x (hm3 x hx)⟩
      have hB4 := numD_bounds 1048576 (by decide) b3 o3
      rw [HN4.out] at hB4
      obtain ⟨hz0, hz1, hl4, hm4⟩ := hB4
      dsimp only at hz0 hz1 hl4 hm4
      have HY4 : Aside0 (∀ x ∈ b4, 0 ≤ x ∧ x ≤ 255) := ⟨fun x hx => HY3.out x (hm4 x hx)⟩
      clear hm3 hm4
      obtain ⟨Au, cu, hu⟩ := Kd.R_slice HZ.out.nds
      subst hu
      obtain ⟨Av, cv, hv⟩ := Kd.S_slice HZ.out.own
      subst hv
      go_wp2_with fail
      refine (num_calls g A c l o 5 _ HZ.out.box (Kd.C_below HC.out HZ.out.bel) hc (by omega) HYl.out (by decide) (by decide)).mono ?_
      rw [HN3.out]
      rintro e w7 ⟨rfl, A3, c3, hb_, hC_, hc3, hg_⟩
      dsimp only at hb_ hC_ hc3 ⊢
      have Z3 := Aside0.mk (HZ.out.call hb_ hg_)
      have HC3 := Aside0.mk (hC_ w HC.out)
      clear hb_ hC_ hg_ HZ HC HYl hc
      go_wp2_with fail
      refine (num_calls g A3 c3 b3 o3 1048576 _ Z3.out.box (Kd.C_below HC3.out Z3.out.bel) hc3 (by omega) HY3.out (by decide) (by decide)).mono ?_
      rw [HN4.out]
      rintro e w8 ⟨rfl, A4, c4, hb_, hC_, hc4, hg_⟩
      dsimp only at hb_ hC_ hc4 ⊢
      have Z4 := Aside0.mk (Z3.out.call hb_ hg_)
      have HC4 := Aside0.mk (hC_ w HC3.out)
      clear hb_ hC_ hg_ Z3 HC3 HY3 hc3
      have hq1 := (Z4.out.cell 1).trans rfl
      have hq2 := (Z4.out.cell 2).trans rfl
      have hf1 := Z4.out.fr 1
      have hf2 := Z4.out.fr 2
      go_upto_region 13 with (fail)
      obtain ⟨W6, hW6⟩ : ∃ W6, W6 = (w8.setCell ⟨gn, 1, none⟩ (.int .i64 t)).setCell ⟨gn, 2, none⟩ (.int .i64 z) := ⟨_, rfl⟩
      have Z6 : Aside0 (NSt w gr g gs gn (.slice Av acc.length cv) acc #[.slice Au x'.length cu, .int .i64 t, .int .i64 z] (.slice Au x'.length cu) x' A4 b4.length c4 o4 W6) := ⟨by rw [hW6]; exact (Z4.out.set 1 _ rfl).set 2 _ rfl⟩
      rw [← hW6]
      clear hW6 hq1 hq2 hf1 hf2 Z4
      have hk0 := (Z6.out.cell 0).trans rfl
      have hk1 := (Z6.out.cell 1).trans rfl
      have hk2 := (Z6.out.cell 2).trans rfl
      have hks := Z6.out.cellS
      have hkf := blk_frozen Z6.out.blk 0
      go_wp2_with ((with_reducible refine gate_builtin (b := .append) (xs := #[.tmp 37, .tmp 39]) rfl ?_); at_builtin; refine Kd.S_append k40 (w0 := w) w.heap.size rfl (.tmp 37) (.tmp 39) 23 40 (.agg #[(.slice none 0 0), (.int .i64 0), (.int .i64 0)]) 40 rfl Try.underlying23 info40 rfl (by decide) (by omega) (.slice Av acc.length cv) acc (⟨x', t, z⟩ : NodeT) [.slice Au x'.length cu, .int .i64 t, .int .i64 z] (fun k_ => (w.heap.size ≤ k_) ∧ k_ ≠ gn) (fun k_ => some k_ = (.slice Au x'.length cu : Value).ownBlock) rfl rfl ?aP ?aK ?aF ?aO ?aB ?aS ?aL ?_; (case aP => exact k40_mkM _ _ _ (⟨x', t, z⟩ : NodeT) (Kd.R_mono (Kd.R_tight rfl Z6.out.nds) (fun _ h_ => h_))); (case aK => exact fun k_ hk_ => ⟨⟨Z6.out.nds.1 k_ hk_.symm, fun e_ => Kd.R_ne Z6.out.nds Z6.out.nod (by decide) (e_ ▸ hk_)⟩, fun e_ => ((Kd.S_R Z6.out.own).1 k_ e_.symm).2 hk_⟩); (case aF => exact fun k_ hk => ⟨Nat.le_trans (below_size Z6.out.bel) hk, Kd.freshB Z6.out.nod k_ hk⟩); (case aO => exact Kd.S_mono Z6.out.own (fun k_ hk => ⟨hk.1, fun e_ => hk.2 e_⟩)); (case aB => exact Z6.out.bel); (case aS => exact below_size Z6.out.bel); (case aL => have := HJL.out; omega); intro v9 w9 ho hb hg hat; obtain ⟨Av9, cv9, ev9⟩ := Kd.S_slice ho; rw [List.length_append, List.length_singleton] at ev9; subst ev9; have Z9 := Aside0.mk (Z6.out.done ho hb hg); have hks9 : w9.cell? ⟨gs, 0, none⟩ = some (.slice Av acc.length cv) := (blk_cell (blk_grown Z6.out.blk hg (Kd.S_ne Z6.out.own Z6.out.blk (by decide))) 0).trans rfl; have hkf9 := blk_frozen (blk_grown Z6.out.blk hg (Kd.S_ne Z6.out.own Z6.out.blk (by decide))) 0; clear ho hb hg hat hk0 hk1 hk2 hks hkf Z6)
      refine ⟨⟨j + 1, b4, acc ++ [⟨x', t, z⟩], .slice Av9 (acc.length + 1) cv9, A4, c4, o4, by simp, by omega, ⟨by rw [List.length_append, HJL.out]; rfl⟩, hc4, by omega, ⟨by rw [show m - (j + 1) = dd by omega]; exact HO2.out⟩, HY4, HC4, Z9, ⟨fun y hy => by rcases List.mem_append.mp hy with hy | hy; exact HFA.out y hy; rw [List.mem_singleton.mp hy]; dsimp only; have := HIL.out; omega⟩⟩, ?_⟩
      show m - ((j : Int) + 1).toNat < m - ((j : Int)).toNat
      omega
   ·
    have hj1 : decide ((j : Int) < (m : Int)) = false := decide_eq_false (by omega)
    have hj1n : decide (j < m) = false := decide_eq_false hj
    obtain rfl : j = m := by omega
    have HJ2 : Aside0 ((if ok = false ∨ 0 < b.length ∨ checkS acc ≠ 0 then ([], 8) else (acc, 0)) = (r1, r2)) := ⟨by
     have h := HJ.out
     rw [← HO.out, Nat.sub_self, nodesD] at h
     exact h⟩
    have HBAD : Aside0 ((ok = false ∨ 0 < b.length ∨ checkS acc ≠ 0) → ([] : List NodeT) = r1 ∧ (8 : Int) = r2) := ⟨fun e => by
     have h := HJ2.out
     rw [if_pos e] at h
     exact ⟨(Prod.mk.inj h).1, (Prod.mk.inj h).2⟩⟩
    obtain ⟨Av, cv, hv, hcv, hCv⟩ := Kd.S_reads HL.out.own
    subst hv
    have HCV := Aside0.mk hCv
    have hk0 := HL.out.box.c0
    have hk1 := HL.out.box.c1
    have hks := HL.out.cellS
    have hkr := HL.out.cellR
    have hkf := blk_frozen HL.out.res 0
    clear hCv HO HJ
    cases hok : ok with
    | false =>
     obtain ⟨rfl, rfl⟩ := HBAD.out (Or.inl hok)
     subst hok
     go_wp2
     refine bodyPost_ret (results_ct rfl _ _ gr 25 #[.slice none 0 0] (0, 0) _ rfl (by refine blk_put (cs := #[.slice none 0 0]) ?_ 0 _ rfl; exact HL.out.res) Try.underlying25 rfl (by kernel_rfl)) rfl ?_
     exact ⟨_, rfl, Kd.S_nil _ _ _ _ _, below_set HL.out.bel HL.out.ler⟩
    | true =>
     subst hok
     by_cases hb0 : 0 < b.length
     ·
      obtain ⟨rfl, rfl⟩ := HBAD.out (Or.inr (Or.inl hb0))
      have hb1 : decide (0 < (b.length : Int)) = true := decide_eq_true (by omega)
      have hb2 : decide (0 < b.length) = true := decide_eq_true hb0
      go_wp2
      refine bodyPost_ret (results_ct rfl _ _ gr 25 #[.slice none 0 0] (0, 0) _ rfl (by refine blk_put (cs := #[.slice none 0 0]) ?_ 0 _ rfl; exact HL.out.res) Try.underlying25 rfl (by kernel_rfl)) rfl ?_
      exact ⟨_, rfl, Kd.S_nil _ _ _ _ _, below_set HL.out.bel HL.out.ler⟩
     ·
      have hb1 : decide (0 < (b.length : Int)) = false := decide_eq_false (by omega)
      have hb2 : decide (0 < b.length) = false := decide_eq_false hb0
      obtain ⟨kc, hkc⟩ := (check_ev acc ⟨by have := HJL.out; omega, fun y hy => by have := HFA.out y hy; omega⟩).rounds
      have HKC := Aside0.mk hkc
      clear hkc
      by_cases hch : checkS acc = 0
      ·
       have HE : Aside0 (acc = r1 ∧ (0 : Int) = r2) := ⟨by
        have h := HJ2.out
        rw [if_neg (by rintro (h | h | h); cases h; exact hb0 h; exact h hch)] at h
        exact ⟨(Prod.mk.inj h).1, (Prod.mk.inj h).2⟩⟩
       obtain ⟨-, rfl⟩ := HE.out
       rw [hch] at HKC
       clear hch
       go_wp2_with fail
       refine (dag_Check.calls kc Av cv acc _ _ HCV.out hcv HKC.out).mono ?_
       rintro e w9 ⟨rfl, hb9⟩
       have H9 := Aside0.mk (HL.out.below hb9)
       have hks9 := H9.out.cellS
       have hkr9 := H9.out.cellR
       have hkf9 := blk_frozen H9.out.res 0
       clear hb9 HL hks hkr hkf hk0 hk1
       go_wp2
       refine bodyPost_ret (results_ct rfl _ _ gr 25 #[.slice Av acc.length cv] (0, 0) _ rfl (by refine blk_put (cs := #[.slice none 0 0]) ?_ 0 _ rfl; exact H9.out.res) Try.underlying25 rfl (by kernel_rfl)) rfl ?_
       refine ⟨_, rfl, ?_, below_set H9.out.bel H9.out.ler⟩
       rw [← HE.out.1]
       exact Kd.S_mono (Kd.S_set H9.out.own H9.out.res (by decide) 0 _) (fun _ _ => trivial)
      ·
       obtain ⟨rfl, rfl⟩ := HBAD.out (Or.inr (Or.inr hch))
       have hc8 : (checkS acc != 0) = true := bne_iff_ne.mpr hch
       go_wp2_with fail
       refine (dag_Check.calls kc Av cv acc _ _ HCV.out hcv HKC.out).mono ?_
       rintro e w9 ⟨rfl, hb9⟩
       have H9 := Aside0.mk (HL.out.below hb9)
       have hkr9 := H9.out.cellR
       have hkf9 := blk_frozen H9.out.res 0
       clear hb9 HL hks hkr hkf hk0 hk1
       go_wp2
       refine bodyPost_ret (results_ct rfl _ _ gr 25 #[.slice none 0 0] (0, 0) _ rfl (by refine blk_put (cs := #[.slice none 0 0]) ?_ 0 _ rfl; exact H9.out.res) Try.underlying25 rfl (by kernel_rfl)) rfl ?_
       exact ⟨_, rfl, Kd.S_nil _ _ _ _ _, below_set H9.out.bel H9.out.ler⟩

end Go.Proofs.Ytoplhlacdjlidaa.R
