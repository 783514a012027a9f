/- Contracts of Go functions and what they come to, over the translation of this seat: made by a program of this session (print2.py). -/
import Derived.Test.YtmnkdagfgfcnjaaRx0
namespace Go.Proofs.Ytmnkdagfgfcnjaa.R
open Go.RowKit Go.Proofs.Ytmnkdagfgfcnjaa.Ret Go.Proofs.Ytmnkdagfgfcnjaa.Plain Go.Proofs.Ytmnkdagfgfcnjaa.Box Go.Proofs.YtmnkdagfgfcnjaaW.PrintWords Go.Proofs.YtmnkdagfgfcnjaaW.PrintLast Go.Proofs.YtmnkdagfgfcnjaaW.PrintMore
attribute [local go_sem] max2_int min2_int max_two min_two max_three min_three max_four min_four   -- for this text's walks alone
set_option linter.unusedVariables false
set_option linter.unusedSimpArgs false

/-! ### sieve_keyed: function 16 -/
def sieve_keyed.f (a0 : ByteArray) : Option (Bool) := if a0.toList = ([] : List UInt8) then (some false) else (some (decide ((a0.size : Int) ≤ 64)))
set_option maxHeartbeats 8000000 in
set_option maxRecDepth 100000 in
theorem sieve_keyed.calls (a0 : ByteArray) (r : Bool) (w : World) (h : sieve_keyed.f a0 = some r) :
    Calls Try.prog 16 #[.string a0] w fun e w' => e = .returned (.bool r) ∧ Drawn0 w w' := by
  have H : (if a0.toList = ([] : List UInt8) then (some false) else (some (decide ((a0.size : Int) ≤ 64)))) = some r := h
  clear h
  by_cases c2 : a0.toList = ([] : List UInt8)
  · rw [if_pos c2] at H
    have c2b0 : (a0.toList == ([] : List UInt8)) = true := beq_iff_eq.mpr c2
    have c2b1 : (a0.toList != ([] : List UInt8)) = false := bne_eq_false_iff_eq.mpr c2
    clear c2
    obtain rfl := Option.some.inj H
    go_enter Try.func16, Try.ntmps16
    go_wp2
    go_ret
    exact ⟨by first | rfl | (simp; done) | (simp [*]; done), by repeat (first | exact Drawn0.refl _ | apply Drawn0.step)⟩
  · rw [if_neg c2] at H
    have c2b0 : (a0.toList == ([] : List UInt8)) = false := beq_eq_false_iff_ne.mpr c2
    have c2b1 : (a0.toList != ([] : List UInt8)) = true := bne_iff_ne.mpr c2
    obtain rfl := Option.some.inj H
    go_enter Try.func16, Try.ntmps16
    go_wp2
    go_ret
    exact ⟨by first | rfl | (simp; done) | (simp [*]; done), by repeat (first | exact Drawn0.refl _ | apply Drawn0.step)⟩

-- NOT PRINTED: function 17 (sieve_each)

/-! ### sieve_Make: function 7 -/
/-! ### each, with the two closures -/
def hashUp (s : ByteArray) : Nat → Int
  | 0 => 14695981039346656037
  | i + 1 => IntKind.u64.wrap ((Go.bits .xor .u64 (hashUp s i) (IntKind.u64.wrap (bt s (i : Int)))) * 1099511628211)
def lowS (h : Int) : Int := Go.bits .and .u64 h 4294967295
def highS (h : Int) : Int := Go.bits .or .u64 (h / 4294967296) 1
def placeS (low high : Int) (n : Nat) (i : Nat) : Int := IntKind.u64.wrap (low + IntKind.u64.wrap ((i : Int) * high)) % (8 * (n : Int))
/-- The place and the bit of a key's i-th bit, in so many bytes. -/
def atS (s : ByteArray) (n i : Nat) : Int := placeS (lowS (hashUp s s.size)) (highS (hashUp s s.size)) n i / 8
def bitS (s : ByteArray) (n i : Nat) : Int := 2 ^ (placeS (lowS (hashUp s s.size)) (highS (hashUp s s.size)) n i % 8).toNat % 256
theorem u64_rng (x : Int) : 0 ≤ IntKind.u64.wrap x ∧ IntKind.u64.wrap x < 18446744073709551616 := by
  rw [IntKind.wrap_u64]
  omega
set_option maxHeartbeats 4000000 in
theorem each_make (g : Nat) (A : Option Addr) (n c : Nat) (key : ByteArray) (hk : key.size < 9223372036854775807) (Inv : Nat → World → Prop) (Stop : World → Prop) (w : World) (hn : 1 ≤ n) (hn2 : n ≤ 1000000)
    (hdr : ∀ i W m, Inv i W → Inv i (W.drewN m)) (hdr2 : ∀ W m, Stop W → Stop (W.drewN m))
    (hcl : ∀ i, i < 4 → ∀ W, Inv i W → Calls Try.prog 18 #[.int .i64 (atS key n i), .int .u8 (bitS key n i), .pointer (some ⟨g, 0, none⟩)] W fun e W' => (e = .returned (.bool true) ∧ Inv (i + 1) W') ∨ (e = .returned (.bool false) ∧ Stop W'))
    (h0 : Inv 0 w) : Calls Try.prog 17 #[.slice A n c, .string key, .func (.func 18) #[] #[.pointer (some ⟨g, 0, none⟩)]] w fun e w' => (e = .returned (.bool true) ∧ Inv 4 w') ∨ (e = .returned (.bool false) ∧ Stop w') := by
  have HCL := Aside0.mk hcl
  have HDR := Aside0.mk hdr
  have HDR2 := Aside0.mk hdr2
  have H0 := Aside0.mk h0
  clear hcl hdr hdr2 h0
  obtain ⟨N, hN⟩ : ∃ N, N = key.size := ⟨_, rfl⟩
  go_enter Try.func17, Try.ntmps17
  go_wp2
  go_loopw [7, 15] (fun v7 v15 w' => ∃ (i : Nat), v7 = .int .u64 (hashUp key i) ∧ v15 = .int .i64 (i : Int) ∧ i ≤ key.size ∧ Aside0 (Inv 0 w')) (fun v7 v15 w' => key.size - (match v15 with | .int _ j => j.toNat | _ => 0))
  case atStart => exact ⟨0, rfl, rfl, Nat.zero_le _, H0⟩
  case round =>
    obtain ⟨i, rfl, rfl, hi, HI⟩ := hrel
    by_cases h1 : i < key.size
    · have c1 : decide ((i : Int) < (key.size : Int)) = true := decide_eq_true (by omega)
      have p4 : (0 ≤ (i : Int)) = True := eq_true (by omega)
      have q4 : ((i : Int) < (key.size : Int)) = True := eq_true (by omega)
      have hx4 := bt_at key (i : Int)
      have e : ((key[i]'h1).toNat : Int) = bt key (i : Int) := by
        have := hx4 (by simpa using h1)
        simpa using this
      go_wp2
      refine ⟨⟨i + 1, by first | rfl | (rw [e]; rfl), by simp, by omega, HI⟩, ?_⟩
      show key.size - ((i : Int) + 1).toNat < key.size - ((i : Int)).toNat
      omega
    · have c1 : decide ((i : Int) < (key.size : Int)) = false := decide_eq_false (by omega)
      obtain rfl : i = key.size := by omega
      go_wp2
      go_loopw [31] (fun v31 w' => ∃ (i : Nat), v31 = .int .u64 (i : Int) ∧ i ≤ 4 ∧ Aside0 (Inv i w')) (fun v31 w' => 4 - (match v31 with | .int _ j => j.toNat | _ => 0))
      case atStart => exact ⟨0, rfl, by omega, HI⟩
      case round =>
        obtain ⟨i, rfl, hi4, HI2⟩ := hrel
        by_cases h2 : i < 4
        · have c2 : decide ((i : Int) < 4) = true := decide_eq_true (by omega)
          obtain ⟨X, hX⟩ : ∃ X, IntKind.u64.wrap (Go.bits .and .u64 (hashUp key key.size) 4294967295 + IntKind.u64.wrap ((i : Int) * Go.bits .or .u64 (hashUp key key.size / 4294967296) 1)) = X := ⟨_, rfl⟩
          have hX0 : 0 ≤ X ∧ X < 18446744073709551616 := by rw [← hX]; exact u64_rng _
          obtain ⟨Y, hY⟩ : ∃ Y : Int, X % (8 * (n : Int)) = Y := ⟨_, rfl⟩
          have hY0 : 0 ≤ Y ∧ Y < 8 * (n : Int) := by rw [← hY]; exact ⟨Int.emod_nonneg _ (by omega), Int.emod_lt_of_pos _ (by omega)⟩
          have hm0 : 0 ≤ Y.tmod 8 ∧ Y.tmod 8 < 8 := by rw [Int.tmod_eq_emod_of_nonneg hY0.1]; omega
          have p1 : decide (0 ≤ Y.tmod 8) = true := decide_eq_true hm0.1
          have p2 : (0 ≤ Y.tmod 8) = True := eq_true hm0.1
          have HA : Aside0 (Y / 8 = atS key n i ∧ 2 ^ (Y % 8).toNat % 256 = bitS key n i) := ⟨by unfold atS bitS placeS lowS highS; rw [hX, hY]; exact ⟨rfl, rfl⟩⟩
          go_wp2_with fail
          rw [HA.out.1, HA.out.2]
          refine (HCL.out i h2 _ HI2.out).mono ?_
          rintro e w3 (⟨rfl, h3⟩ | ⟨rfl, h3⟩)
          · have H3 := Aside0.mk h3
            clear h3
            go_wp2
            refine ⟨⟨i + 1, by simp, by omega, H3⟩, ?_⟩
            show 4 - ((i : Int) + 1).toNat < 4 - ((i : Int)).toNat
            omega
          · have H3 := Aside0.mk h3
            clear h3
            go_wp2
            go_ret
            exact .inr ⟨rfl, H3.out⟩
        · have c2 : decide ((i : Int) < 4) = false := decide_eq_false (by omega)
          obtain rfl : i = 4 := by omega
          go_wp2
          go_ret
          exact .inl ⟨rfl, HI2.out⟩
set_option maxHeartbeats 4000000 in
theorem each_may (g : Nat) (A : Option Addr) (n c : Nat) (key : ByteArray) (hk : key.size < 9223372036854775807) (Inv : Nat → World → Prop) (Stop : World → Prop) (w : World) (hn : 1 ≤ n) (hn2 : n ≤ 1000000)
    (hdr : ∀ i W m, Inv i W → Inv i (W.drewN m)) (hdr2 : ∀ W m, Stop W → Stop (W.drewN m))
    (hcl : ∀ i, i < 4 → ∀ W, Inv i W → Calls Try.prog 19 #[.int .i64 (atS key n i), .int .u8 (bitS key n i), .pointer (some ⟨g, 0, none⟩)] W fun e W' => (e = .returned (.bool true) ∧ Inv (i + 1) W') ∨ (e = .returned (.bool false) ∧ Stop W'))
    (h0 : Inv 0 w) : Calls Try.prog 17 #[.slice A n c, .string key, .func (.func 19) #[] #[.pointer (some ⟨g, 0, none⟩)]] w fun e w' => (e = .returned (.bool true) ∧ Inv 4 w') ∨ (e = .returned (.bool false) ∧ Stop w') := by
  have HCL := Aside0.mk hcl
  have HDR := Aside0.mk hdr
  have HDR2 := Aside0.mk hdr2
  have H0 := Aside0.mk h0
  clear hcl hdr hdr2 h0
  obtain ⟨N, hN⟩ : ∃ N, N = key.size := ⟨_, rfl⟩
  go_enter Try.func17, Try.ntmps17
  go_wp2
  go_loopw [7, 15] (fun v7 v15 w' => ∃ (i : Nat), v7 = .int .u64 (hashUp key i) ∧ v15 = .int .i64 (i : Int) ∧ i ≤ key.size ∧ Aside0 (Inv 0 w')) (fun v7 v15 w' => key.size - (match v15 with | .int _ j => j.toNat | _ => 0))
  case atStart => exact ⟨0, rfl, rfl, Nat.zero_le _, H0⟩
  case round =>
    obtain ⟨i, rfl, rfl, hi, HI⟩ := hrel
    by_cases h1 : i < key.size
    · have c1 : decide ((i : Int) < (key.size : Int)) = true := decide_eq_true (by omega)
      have p4 : (0 ≤ (i : Int)) = True := eq_true (by omega)
      have q4 : ((i : Int) < (key.size : Int)) = True := eq_true (by omega)
      have hx4 := bt_at key (i : Int)
      have e : ((key[i]'h1).toNat : Int) = bt key (i : Int) := by
        have := hx4 (by simpa using h1)
        simpa using this
      go_wp2
      refine ⟨⟨i + 1, by first | rfl | (rw [e]; rfl), by simp, by omega, HI⟩, ?_⟩
      show key.size - ((i : Int) + 1).toNat < key.size - ((i : Int)).toNat
      omega
    · have c1 : decide ((i : Int) < (key.size : Int)) = false := decide_eq_false (by omega)
      obtain rfl : i = key.size := by omega
      go_wp2
      go_loopw [31] (fun v31 w' => ∃ (i : Nat), v31 = .int .u64 (i : Int) ∧ i ≤ 4 ∧ Aside0 (Inv i w')) (fun v31 w' => 4 - (match v31 with | .int _ j => j.toNat | _ => 0))
      case atStart => exact ⟨0, rfl, by omega, HI⟩
      case round =>
        obtain ⟨i, rfl, hi4, HI2⟩ := hrel
        by_cases h2 : i < 4
        · have c2 : decide ((i : Int) < 4) = true := decide_eq_true (by omega)
          obtain ⟨X, hX⟩ : ∃ X, IntKind.u64.wrap (Go.bits .and .u64 (hashUp key key.size) 4294967295 + IntKind.u64.wrap ((i : Int) * Go.bits .or .u64 (hashUp key key.size / 4294967296) 1)) = X := ⟨_, rfl⟩
          have hX0 : 0 ≤ X ∧ X < 18446744073709551616 := by rw [← hX]; exact u64_rng _
          obtain ⟨Y, hY⟩ : ∃ Y : Int, X % (8 * (n : Int)) = Y := ⟨_, rfl⟩
          have hY0 : 0 ≤ Y ∧ Y < 8 * (n : Int) := by rw [← hY]; exact ⟨Int.emod_nonneg _ (by omega), Int.emod_lt_of_pos _ (by omega)⟩
          have hm0 : 0 ≤ Y.tmod 8 ∧ Y.tmod 8 < 8 := by rw [Int.tmod_eq_emod_of_nonneg hY0.1]; omega
          have p1 : decide (0 ≤ Y.tmod 8) = true := decide_eq_true hm0.1
          have p2 : (0 ≤ Y.tmod 8) = True := eq_true hm0.1
          have HA : Aside0 (Y / 8 = atS key n i ∧ 2 ^ (Y % 8).toNat % 256 = bitS key n i) := ⟨by unfold atS bitS placeS lowS highS; rw [hX, hY]; exact ⟨rfl, rfl⟩⟩
          go_wp2_with fail
          rw [HA.out.1, HA.out.2]
          refine (HCL.out i h2 _ HI2.out).mono ?_
          rintro e w3 (⟨rfl, h3⟩ | ⟨rfl, h3⟩)
          · have H3 := Aside0.mk h3
            clear h3
            go_wp2
            refine ⟨⟨i + 1, by simp, by omega, H3⟩, ?_⟩
            show 4 - ((i : Int) + 1).toNat < 4 - ((i : Int)).toNat
            omega
          · have H3 := Aside0.mk h3
            clear h3
            go_wp2
            go_ret
            exact .inr ⟨rfl, H3.out⟩
        · have c2 : decide ((i : Int) < 4) = false := decide_eq_false (by omega)
          obtain rfl : i = 4 := by omega
          go_wp2
          go_ret
          exact .inl ⟨rfl, HI2.out⟩


/-! ### the two closures -/
theorem may1_calls (g : Nat) (A : Option Addr) (c : Nat) (l : List Int) (w : World) (at_ bit : Int) (hb : Boxed w g 22 (.slice A l.length c)) (hr : Kd.C (Kd.int .u8) w A l.length l) (h0 : 0 ≤ at_) (h1 : at_ < l.length) :
    Calls Try.prog 19 #[.int .i64 at_, .int .u8 bit, .pointer (some ⟨g, 0, none⟩)] w fun e w' => e = .returned (.bool (Go.bits .and .u8 (rd l at_) bit != 0)) ∧ w' = w := by
  obtain ⟨ad, e, hx⟩ := Kd.at_int hr at_ h0 h1
  subst e
  have hcell := hb.cell
  have p1 : (0 ≤ at_) = True := eq_true h0
  have q1 : (at_ < (l.length : Int)) = True := eq_true h1
  have p2 : decide (0 ≤ at_) = true := decide_eq_true h0
  have q2 : decide (at_ < (l.length : Int)) = true := decide_eq_true h1
  clear hb hr
  go_enter Try.func19, Try.ntmps19
  go_wp2
  go_ret
  exact ⟨rfl, rfl⟩
theorem make1_calls (g base : Nat) (v : Value) (l : List Int) (ok : Nat → Prop) (w : World) (at_ bit : Int) (hb : Boxed w g 22 v) (hr : Kd.R (Kd.int .u8) 5 w base ok v l) (h0 : 0 ≤ at_) (h1 : at_ < l.length) :
    Calls Try.prog 18 #[.int .i64 at_, .int .u8 bit, .pointer (some ⟨g, 0, none⟩)] w fun e w' => e = .returned (.bool true) ∧ Boxed w' g 22 v ∧ Kd.R (Kd.int .u8) 5 w' base ok v (l.set at_.toNat (Go.bits .or .u8 (rd l at_) bit)) ∧ w.grownBy w' v.ownBlock := by
  obtain ⟨go, co, rfl, gb, gl, cl, HG⟩ := Kd.R_form hr (by omega)
  obtain ⟨hx, hf⟩ := Kd.R_celln 0 hr at_ h0 h1
  have HP := Kd.R_putg hr at_ (Go.bits .or .u8 (rd l at_) bit)
  have hne : g ≠ go := by
    rintro rfl
    have := (show w.heap[g]? = _ from hb).symm.trans HG
    simp at this
  have HB' := Aside0.mk (hb.kept HP.2 (fun e => hne (Option.some.inj e)))
  have hcell := hb.cell
  have p1 : (0 ≤ at_) = True := eq_true h0
  have q1 : (at_ < (l.length : Int)) = True := eq_true h1
  have p2 : decide (0 ≤ at_) = true := decide_eq_true h0
  have q2 : decide (at_ < (l.length : Int)) = true := decide_eq_true h1
  have HPA := Aside0.mk HP
  clear hb hr HP HG
  go_enter Try.func18, Try.ntmps18
  go_wp2
  go_ret
  exact ⟨rfl, HB'.out, HPA.out.1, HPA.out.2⟩

/-! ### sieves, in plain words -/
def keyedS (s : ByteArray) : Bool := decide (1 ≤ s.size) && decide (s.size ≤ 64)
def setBits (s : ByteArray) (n : Nat) : Nat → List Int → List Int
  | 0, b => b
  | i + 1, b => (setBits s n i b).set (atS s n i).toNat (Go.bits .or .u8 (rd (setBits s n i b) (atS s n i)) (bitS s n i))
def hasBits (s : ByteArray) (b : List Int) : Nat → Bool
  | 0 => true
  | i + 1 => hasBits s b i && (Go.bits .and .u8 (rd b (atS s b.length i)) (bitS s b.length i) != 0)
def manyS (l : List ByteArray) : Nat := max 8 l.length
def makeS (l : List ByteArray) : List Int × Int :=
  if 1024 < l.length then ([], 4) else if l.all keyedS then (l.foldl (fun b s => setBits s (manyS l) 4 b) (List.replicate (manyS l) 0), 0) else ([], 3)
def checkS (b : List Int) : Int := if b.length < 8 then 8 else if b.length > 1024 then 8 else 0
def mayS (b : List Int) (s : ByteArray) : Bool × Int :=
  if checkS b = 0 then (if keyedS s then (hasBits s b 4, 0) else (false, 3)) else (false, checkS b)
theorem hasBits_stop (s : ByteArray) (b : List Int) : ∀ (d i : Nat), hasBits s b i = false → hasBits s b (i + d) = false
  | 0, i, h => h
  | d + 1, i, h => by
    show (hasBits s b (i + d) && _) = false
    rw [hasBits_stop s b d i h]
    rfl
theorem setBits_length (s : ByteArray) (n : Nat) (b : List Int) : ∀ i, (setBits s n i b).length = b.length
  | 0 => rfl
  | i + 1 => by
    show ((setBits s n i b).set _ _).length = _
    rw [List.length_set, setBits_length s n b i]

theorem keyed_eq (s : ByteArray) : sieve_keyed.f s = some (keyedS s) := by
  have hs : s.toList = [] ↔ s.size = 0 := by
    rw [ByteArray.toList_eq]
    constructor
    · intro h
      have := congrArg List.length h
      simpa using this
    · intro h
      apply List.eq_nil_of_length_eq_zero
      simpa using h
  unfold sieve_keyed.f keyedS
  by_cases h : s.toList = []
  · have h0 := hs.mp h
    rw [if_pos h]
    simp [h0]
  · have h0 : ¬ s.size = 0 := fun e => h (hs.mpr e)
    rw [if_neg h]
    have : 1 ≤ s.size := by omega
    simp [this]
    omega
theorem at_range (s : ByteArray) (n i : Nat) (hn : 1 ≤ n) : 0 ≤ atS s n i ∧ atS s n i < n := by
  unfold atS placeS
  have h1 := Int.emod_nonneg (IntKind.u64.wrap (lowS (hashUp s s.size) + IntKind.u64.wrap ((i : Int) * highS (hashUp s s.size)))) (b := 8 * (n : Int)) (by omega)
  have h2 := Int.emod_lt_of_pos (IntKind.u64.wrap (lowS (hashUp s s.size) + IntKind.u64.wrap ((i : Int) * highS (hashUp s s.size)))) (b := 8 * (n : Int)) (by omega)
  omega
def sieve_Make.f (l0 : List ByteArray) : Option (List Int × Int) := some (makeS l0)
set_option maxHeartbeats 8000000 in
set_option maxRecDepth 100000 in
theorem sieve_Make.calls (A0 : Option Addr) (c0 : Nat) (l0 : List ByteArray) (r1 : List Int) (r2 : Int) (w : World) (hr0 : Kd.C Kd.string w A0 l0.length l0) (hc0 : l0.length ≤ c0) (h : sieve_Make.f l0 = some (r1, r2)) :
    Calls Try.prog 7 #[.slice A0 l0.length c0] w fun e w' => ∃ v0_ : Value, e = .returned (.tuple #[v0_, .int .i64 r2]) ∧ Kd.R (Kd.int .u8) 5 w' w.heap.size (fun _ => True) v0_ r1 ∧ Below w.heap.size w w' := by
  have hres : makeS l0 = (r1, r2) := Option.some.inj h
  clear h
  have HX := Aside0.mk hres
  have HR0 := Aside0.mk hr0
  clear hres hr0
  by_cases hbig : 1024 < l0.length
  · have HE : Aside0 (([] : List Int) = r1 ∧ (4 : Int) = r2) := ⟨by
      have h := HX.out
      unfold makeS at h
      rw [if_pos hbig] at h
      exact ⟨(Prod.mk.inj h).1, (Prod.mk.inj h).2⟩⟩
    obtain ⟨rfl, rfl⟩ := HE.out
    have c1 : decide (1024 < (l0.length : Int)) = true := decide_eq_true (by omega)
    go_enter Try.func7, Try.ntmps7
    go_wp2
    go_ret2
    exact ⟨_, rfl, Kd.R_nil _ _ _ _ _, Below.refl _ _⟩
  · have c1 : decide (1024 < (l0.length : Int)) = false := decide_eq_false (by omega)
    go_enter Try.func7, Try.ntmps7
    go_wp2_with fail
    go_loopw [14] (fun v14 w' => ∃ (i : Nat), v14 = .int .i64 (i : Int) ∧ i ≤ l0.length ∧ Aside0 ((l0.take i).all keyedS = true) ∧ Aside0 (∃ m, w' = w.drewN m)) (fun v14 w' => l0.length - (match v14 with | .int _ j => j.toNat | _ => 0))
    case atStart => exact ⟨0, rfl, Nat.zero_le _, ⟨by simp⟩, ⟨0, rfl⟩⟩
    case round =>
      obtain ⟨i, rfl, hi, HA, HW⟩ := hrel
      obtain ⟨m, rfl⟩ := HW.out
      by_cases h1 : i < l0.length
      · have c2 : decide ((i : Int) < (l0.length : Int)) = true := decide_eq_true (by omega)
        have p1 : 0 ≤ (i : Int) := by omega
        have q1 : (i : Int) < (l0.length : Int) := by omega
        obtain ⟨ad, ea, hx⟩ := Kd.at_string HR0.out (i : Int) p1 q1
        subst ea
        obtain ⟨s, hs⟩ : ∃ s, s = rdOf ByteArray.empty l0 (i : Int) := ⟨_, rfl⟩
        rw [← hs] at hx
        rw [Int.toNat_natCast] at hx
        have hsi : s = l0[i] := by rw [hs]; simp [rdOf, List.getD_eq_getElem?_getD, List.getElem?_eq_getElem h1]
        have HS := Aside0.mk hsi
        clear hs hsi
        have HY := Aside0.mk (keyed_eq s)
        replace p1 := eq_true p1
        replace q1 := eq_true q1
        by_cases hk : keyedS s = true
        · go_wp2_with fail
          refine (sieve_keyed.calls s _ _ HY.out).mono ?_
          rintro e w2 ⟨rfl, ⟨m2, rfl⟩⟩
          rw [hk]
          go_wp2
          refine ⟨⟨i + 1, by simp, by omega, ⟨?_⟩, ⟨_, rfl⟩⟩, ?_⟩
          · rw [List.take_succ_eq_append_getElem h1, List.all_append, HA.out, ← HS.out]
            simp [hk]
          · show l0.length - ((i : Int) + 1).toNat < l0.length - ((i : Int)).toNat
            omega
        · have hk' : keyedS s = false := Bool.eq_false_iff.mpr hk
          have hall : l0.all keyedS = false := by
            refine Bool.eq_false_iff.mpr fun h => hk ?_
            rw [HS.out]
            exact List.all_eq_true.mp h _ (List.getElem_mem h1)
          have HE : Aside0 (([] : List Int) = r1 ∧ (3 : Int) = r2) := ⟨by
            have h := HX.out
            unfold makeS at h
            rw [if_neg hbig, hall] at h
            exact ⟨(Prod.mk.inj h).1, (Prod.mk.inj h).2⟩⟩
          obtain ⟨rfl, rfl⟩ := HE.out
          clear hall
          go_wp2_with fail
          refine (sieve_keyed.calls s _ _ HY.out).mono ?_
          rintro e w2 ⟨rfl, ⟨m2, rfl⟩⟩
          rw [hk']
          go_wp2
          go_ret2
          exact ⟨_, rfl, Kd.R_nil _ _ _ _ _, pw_below_drewN (Below.refl _ _) _⟩
      · have c2 : decide ((i : Int) < (l0.length : Int)) = false := decide_eq_false (by omega)
        obtain rfl : i = l0.length := by omega
        have hall : l0.all keyedS = true := by have h := HA.out; rwa [List.take_length] at h
        have HE : Aside0 (l0.foldl (fun b s => setBits s (manyS l0) 4 b) (List.replicate (manyS l0) 0) = r1 ∧ (0 : Int) = r2) := ⟨by
          have h := HX.out
          unfold makeS at h
          rw [if_neg hbig, if_pos hall] at h
          exact ⟨(Prod.mk.inj h).1, (Prod.mk.inj h).2⟩⟩
        obtain ⟨-, rfl⟩ := HE.out
        have HALL := Aside0.mk hall
        clear hall
        obtain ⟨N, hN⟩ : ∃ N : Nat, N = manyS l0 := ⟨_, rfl⟩
        have hN8 : 8 ≤ N ∧ N ≤ 1024 ∧ l0.length ≤ N := by rw [hN]; unfold manyS; omega
        have hmx : (if (8 : Int) < (l0.length : Int) then (l0.length : Int) else 8) = (N : Int) := by rw [hN]; unfold manyS; split <;> omega
        have HN := Aside0.mk hN
        clear hN
        go_wp2_with (first
          | ((with_reducible refine gate_dst (N := 25) rfl ?_); refine Kd.R_make (w0 := w) (Kd.int .u8) w.heap.size 5 rfl (N := 25) rfl 22 _ _ rfl (N : Int) rfl rfl Try.underlying22 (.int .u8 0) 1 info5 rfl (by decide) (by omega) 0 (ok := fun _ => True) (okp := fun _ => True) rfl (fun _ hk => hk) trivial (by omega) (by omega) (pw_below_drewN (Below.refl _ _) _) (Nat.le_refl _) ?_; intro v4 w4 ho hb hg hnew; have HO4 := Aside0.mk ho; have HB4 := Aside0.mk hb; clear ho hb hg hnew; obtain ⟨A4, c4, ev4, hc4, -⟩ := Kd.R_reads HO4.out; subst ev4; simp only [List.length_replicate, Int.toNat_natCast] at HO4 hc4))
        go_loopw [28] (fun v28 w' => ∃ (i : Nat), v28 = .int .i64 (i : Int) ∧ i ≤ l0.length ∧ Aside0 (Boxed w' w4.heap.size 22 (.slice A4 N c4)) ∧ Aside0 (Kd.R (Kd.int .u8) 5 w' w.heap.size (fun _ => True) (.slice A4 N c4) ((l0.take i).foldl (fun b s => setBits s N 4 b) (List.replicate N 0))) ∧ Aside0 (Below w.heap.size w w')) (fun v28 w' => l0.length - (match v28 with | .int _ j => j.toNat | _ => 0))
        case atStart =>
          exact ⟨0, rfl, Nat.zero_le _, ⟨Boxed.new w4 22 _⟩, ⟨Kd.R_alloc HO4.out _⟩, ⟨below_alloc HB4.out _⟩⟩
        case round =>
          obtain ⟨i, rfl, hi, HBX, HO, HB⟩ := hrel
          by_cases h2_ : i < l0.length
          · have c3 : decide ((i : Int) < (l0.length : Int)) = true := decide_eq_true (by omega)
            have hcell := Boxed.cell HBX.out
            have p1 : 0 ≤ (i : Int) := by omega
            have q1 : (i : Int) < (l0.length : Int) := by omega
            obtain ⟨ad, ea, hx⟩ := Kd.at_string HR0.out (i : Int) p1 q1
            subst ea
            obtain ⟨s, hs⟩ : ∃ s, s = rdOf ByteArray.empty l0 (i : Int) := ⟨_, rfl⟩
            rw [← hs] at hx
            rw [Int.toNat_natCast] at hx
            have hsi : s = l0[i] := by rw [hs]; simp [rdOf, List.getD_eq_getElem?_getD, List.getElem?_eq_getElem h2_]
            have HS := Aside0.mk hsi
            clear hs hsi
            have hk : keyedS s = true := by rw [HS.out]; exact List.all_eq_true.mp HALL.out _ (List.getElem_mem h2_)
            have hsz : s.size ≤ 64 := by
              unfold keyedS at hk
              simp at hk
              exact hk.2
            replace hx := (HB.out.cell (World.block_lt_of_cell? w _ hx)).trans hx
            replace p1 := eq_true p1
            replace q1 := eq_true q1
            have hmf : ∀ (fn : Fn) (first cap : Array Value) (W : World), (Instr.makeFunc fn first cap).run Try.prog W = .ok (.func fn first cap) W := fun _ _ _ _ => rfl
            go_wp2_with fail
            obtain ⟨b, hb⟩ : ∃ b, b = (l0.take i).foldl (fun b s => setBits s N 4 b) (List.replicate N 0) := ⟨_, rfl⟩
            rw [← hb] at HO
            have HBB := Aside0.mk hb
            clear hb
            refine (each_make w4.heap.size A4 N c4 s (by omega) (fun j W => Boxed W w4.heap.size 22 (.slice A4 N c4) ∧ Kd.R (Kd.int .u8) 5 W w.heap.size (fun _ => True) (.slice A4 N c4) (setBits s N j b) ∧ Below w.heap.size w W) (fun _ => False) wr (by omega) (by omega) ?_ ?_ ?_ ⟨HBX.out, HO.out, HB.out⟩).mono ?_
            · rintro j W m ⟨h1, h2, h3⟩
              exact ⟨blk_drewN h1 _, Kd.R_drewN h2 _, pw_below_drewN h3 _⟩
            · exact fun _ _ h => h.elim
            · rintro j hj W ⟨h1, h2, h3⟩
              obtain ⟨hp, hq⟩ := at_range s N j (by omega)
              have hlen : N = (setBits s N j b).length := (Kd.R_reads' h2).1
              refine (make1_calls w4.heap.size w.heap.size (.slice A4 N c4) (setBits s N j b) _ W _ _ h1 h2 hp (by omega)).mono ?_
              rintro e w' ⟨rfl, k1, k2, k3⟩
              exact .inl ⟨rfl, k1, k2, h3.grown k3 (below_size h3) (fun q e => ((Kd.R_bound h2).1 q e).2.1)⟩
            · rintro e w5 (⟨rfl, h1, h2, h3⟩ | ⟨_, h⟩)
              · have H1 := Aside0.mk h1
                have H2 := Aside0.mk h2
                have H3 := Aside0.mk h3
                clear h1 h2 h3 HBX HO HB hcell hx
                go_wp2
                refine ⟨⟨i + 1, by simp, by omega, H1, ⟨?_⟩, H3⟩, ?_⟩
                · rw [List.take_succ_eq_append_getElem h2_, List.foldl_append, ← HBB.out, ← HS.out]
                  exact H2.out
                · show l0.length - ((i : Int) + 1).toNat < l0.length - ((i : Int)).toNat
                  omega
              · exact h.elim
          · have c3 : decide ((i : Int) < (l0.length : Int)) = false := decide_eq_false (by omega)
            obtain rfl : i = l0.length := by omega
            have hcell := Boxed.cell HBX.out
            go_wp2
            go_ret2
            refine ⟨_, rfl, ?_, HB.out⟩
            have h := HO.out
            rw [List.take_length] at h
            have e := HE.out.1
            rw [← HN.out] at e
            rw [← e]
            exact h


/-! ### sieve_Check: function 10 -/
def sieve_Check.f (l0 : List Int) : Option (Int) := if (l0.length : Int) < 8 then (some 8) else (if (l0.length : Int) > 1024 then (some 8) else (some 0))
set_option maxHeartbeats 8000000 in
set_option maxRecDepth 100000 in
theorem sieve_Check.calls (A0 : Option Addr) (c0 : Nat) (l0 : List Int) (r : Int) (w : World) (hr0 : Kd.C (Kd.int .u8) w A0 l0.length l0) (hc0 : l0.length ≤ c0) (h : sieve_Check.f l0 = some r) :
    Calls Try.prog 10 #[.slice A0 l0.length c0] w fun e w' => e = .returned (.int .i64 r) ∧ Drawn0 w w' := by
  have HR0 := Aside0.mk hr0
  have HC0 := Aside0.mk hc0
  clear hr0 hc0
  have H : (if (l0.length : Int) < 8 then (some 8) else (if (l0.length : Int) > 1024 then (some 8) else (some 0))) = some r := h
  clear h
  by_cases c2 : (l0.length : Int) < 8
  · rw [if_pos c2] at H
    have c2b0 : decide ((l0.length : Int) < 8) = true := decide_eq_true c2
    have c2b1 : decide (l0.length < 8) = true := decide_eq_true (by omega)
    clear c2
    obtain rfl := Option.some.inj H
    go_enter Try.func10, Try.ntmps10
    go_wp2
    go_ret
    exact ⟨by first | rfl | (simp; done) | (simp [*]; done), by repeat (first | exact Drawn0.refl _ | apply Drawn0.step)⟩
  · rw [if_neg c2] at H
    have c2b0 : decide ((l0.length : Int) < 8) = false := decide_eq_false c2
    have c2b1 : decide (l0.length < 8) = false := decide_eq_false (by omega)
    clear c2
    by_cases c3 : (l0.length : Int) > 1024
    · rw [if_pos c3] at H
      have c3b0 : decide (1024 < (l0.length : Int)) = true := decide_eq_true c3
      have c3b1 : decide (1024 < l0.length) = true := decide_eq_true (by omega)
      clear c3
      obtain rfl := Option.some.inj H
      go_enter Try.func10, Try.ntmps10
      go_wp2
      go_ret
      exact ⟨by first | rfl | (simp; done) | (simp [*]; done), by repeat (first | exact Drawn0.refl _ | apply Drawn0.step)⟩
    · rw [if_neg c3] at H
      have c3b0 : decide (1024 < (l0.length : Int)) = false := decide_eq_false c3
      have c3b1 : decide (1024 < l0.length) = false := decide_eq_false (by omega)
      clear c3
      obtain rfl := Option.some.inj H
      go_enter Try.func10, Try.ntmps10
      go_wp2
      go_ret
      exact ⟨by first | rfl | (simp; done) | (simp [*]; done), by repeat (first | exact Drawn0.refl _ | apply Drawn0.step)⟩

/-! ### sieve_May: function 8 -/
def sieve_May.f (l0 : List Int) (a1 : ByteArray) : Option (Bool × Int) := some (mayS l0 a1)
set_option maxHeartbeats 8000000 in
set_option maxRecDepth 100000 in
theorem sieve_May.calls (A0 : Option Addr) (c0 : Nat) (l0 : List Int) (a1 : ByteArray) (r1 : Bool) (r2 : Int) (w : World) (hr0 : Kd.C (Kd.int .u8) w A0 l0.length l0) (hc0 : l0.length ≤ c0) (h : sieve_May.f l0 a1 = some (r1, r2)) :
    Calls Try.prog 8 #[.slice A0 l0.length c0, .string a1] w fun e w' => e = .returned (.tuple #[.bool r1, .int .i64 r2]) ∧ Below w.heap.size w w' := by
  have hres : mayS l0 a1 = (r1, r2) := Option.some.inj h
  clear h
  have hchk : sieve_Check.f l0 = some (checkS l0) := by
    unfold sieve_Check.f checkS
    by_cases h1 : (l0.length : Int) < 8
    · rw [if_pos h1, if_pos (show l0.length < 8 by omega)]
    · rw [if_neg h1, if_neg (show ¬ l0.length < 8 by omega)]
      by_cases h2 : (l0.length : Int) > 1024
      · rw [if_pos h2, if_pos (show l0.length > 1024 by omega)]
      · rw [if_neg h2, if_neg (show ¬ l0.length > 1024 by omega)]
  have HK := Aside0.mk hchk
  have HY := Aside0.mk (keyed_eq a1)
  have HR0 := Aside0.mk hr0
  have HX := Aside0.mk hres
  have HBX := Aside0.mk (fun w1 hb => (blk_below (show (w.alloc (.cells #[.slice A0 l0.length c0] 22)).heap[w.heap.size]? = _ from Boxed.new w 22 (.slice A0 l0.length c0)) hb : Boxed w1 w.heap.size 22 (.slice A0 l0.length c0)))
  clear hchk hr0 hres
  by_cases hc : checkS l0 = 0
  · have c1 : (checkS l0 != 0) = false := bne_eq_false_iff_eq.mpr hc
    have hl : 8 ≤ l0.length ∧ l0.length ≤ 1024 := by
      unfold checkS at hc
      repeat' split at hc
      all_goals omega
    by_cases hk : keyedS a1 = true
    · have hsz : a1.size ≤ 64 := by
        unfold keyedS at hk
        simp at hk
        exact hk.2
      have HE : Aside0 (hasBits a1 l0 4 = r1 ∧ (0 : Int) = r2) := ⟨by
        have h := HX.out
        unfold mayS at h
        rw [if_pos hc, if_pos hk] at h
        exact ⟨(Prod.mk.inj h).1, (Prod.mk.inj h).2⟩⟩
      obtain ⟨-, rfl⟩ := HE.out
      go_enter Try.func8, Try.ntmps8
      go_wp2_with fail
      refine (sieve_Check.calls A0 c0 l0 _ _ (Kd.C_alloc HR0.out _) hc0 HK.out).mono ?_
      rintro e w1 ⟨rfl, ⟨m1, rfl⟩⟩
      go_wp2_with fail
      refine (sieve_keyed.calls a1 _ _ HY.out).mono ?_
      rintro e w2 ⟨rfl, ⟨m2, rfl⟩⟩
      rw [hk]
      go_wp2_with fail
      refine (each_may w.heap.size A0 l0.length c0 a1 (by omega) (fun i W => (∃ m, W = (w.alloc (.cells #[.slice A0 l0.length c0] 22)).drewN m) ∧ hasBits a1 l0 i = true) (fun W => (∃ m, W = (w.alloc (.cells #[.slice A0 l0.length c0] 22)).drewN m) ∧ hasBits a1 l0 4 = false) _ (by omega) (by omega) ?_ ?_ ?_ ⟨⟨_, rfl⟩, rfl⟩).mono ?_
      · rintro i W m ⟨⟨m', rfl⟩, h⟩
        exact ⟨⟨m' + m, World.drewN_drewN _ _ _⟩, h⟩
      · rintro W m ⟨⟨m', rfl⟩, h⟩
        exact ⟨⟨m' + m, World.drewN_drewN _ _ _⟩, h⟩
      · rintro i hi W ⟨⟨m, rfl⟩, hh⟩
        obtain ⟨hp, hq⟩ := at_range a1 l0.length i (by omega)
        refine (may1_calls w.heap.size A0 c0 l0 _ _ _ (HBX.out _ (pw_below_drewN (Below.refl _ _) m)) (Kd.C_drewN (Kd.C_alloc HR0.out _) m) hp hq).mono ?_
        rintro e w' ⟨rfl, rfl⟩
        cases hbit : (Go.bits .and .u8 (rd l0 (atS a1 l0.length i)) (bitS a1 l0.length i) != 0) with
        | true => exact .inl ⟨rfl, ⟨m, rfl⟩, by rw [hasBits, hh, hbit]; rfl⟩
        | false =>
          refine .inr ⟨rfl, ⟨m, rfl⟩, ?_⟩
          have := hasBits_stop a1 l0 (4 - (i + 1)) (i + 1) (by rw [hasBits, hbit, Bool.and_false])
          rwa [show i + 1 + (4 - (i + 1)) = 4 by omega] at this
      · have hE1 := HE.out.1
        rintro e w3 (⟨rfl, ⟨m3, rfl⟩, h4⟩ | ⟨rfl, ⟨m3, rfl⟩, h4⟩)
        · obtain rfl : true = r1 := h4.symm.trans hE1
          go_wp2
          go_ret2
          exact ⟨rfl, pw_below_drewN (below_alloc (Below.refl _ _) _) _⟩
        · obtain rfl : false = r1 := h4.symm.trans hE1
          go_wp2
          go_ret2
          exact ⟨rfl, pw_below_drewN (below_alloc (Below.refl _ _) _) _⟩
    · have HE : Aside0 (false = r1 ∧ (3 : Int) = r2) := ⟨by
        have h := HX.out
        unfold mayS at h
        rw [if_pos hc, if_neg hk] at h
        exact ⟨(Prod.mk.inj h).1, (Prod.mk.inj h).2⟩⟩
      obtain ⟨rfl, rfl⟩ := HE.out
      have hk' : keyedS a1 = false := Bool.eq_false_iff.mpr hk
      go_enter Try.func8, Try.ntmps8
      go_wp2_with fail
      refine (sieve_Check.calls A0 c0 l0 _ _ (Kd.C_alloc HR0.out _) hc0 HK.out).mono ?_
      rintro e w1 ⟨rfl, ⟨m1, rfl⟩⟩
      go_wp2_with fail
      refine (sieve_keyed.calls a1 _ _ HY.out).mono ?_
      rintro e w2 ⟨rfl, ⟨m2, rfl⟩⟩
      rw [hk']
      go_wp2
      go_ret2
      exact ⟨rfl, pw_below_drewN (below_alloc (Below.refl _ _) _) _⟩
  · have c1 : (checkS l0 != 0) = true := bne_iff_ne.mpr hc
    have HE : Aside0 (false = r1 ∧ checkS l0 = r2) := ⟨by
      have h := HX.out
      unfold mayS at h
      rw [if_neg hc] at h
      exact ⟨(Prod.mk.inj h).1, (Prod.mk.inj h).2⟩⟩
    obtain ⟨rfl, rfl⟩ := HE.out
    go_enter Try.func8, Try.ntmps8
    go_wp2_with fail
    refine (sieve_Check.calls A0 c0 l0 _ _ (Kd.C_alloc HR0.out _) hc0 HK.out).mono ?_
    rintro e w1 ⟨rfl, ⟨m1, rfl⟩⟩
    go_wp2
    go_ret2
    exact ⟨rfl, pw_below_drewN (below_alloc (Below.refl _ _) _) _⟩


/-! ### millhandlaw13_alive: function 9 -/
def millhandlaw13_alive.f  : Option (Bool) := (sieve_Make.f (([(⟨#[97]⟩ : ByteArray), (⟨#[98]⟩ : ByteArray)] : List ByteArray))).bind fun bt104 => ((sieve_May.f bt104.1 (⟨#[97]⟩ : ByteArray)).bind fun bt108 => ((sieve_May.f bt104.1 (⟨#[98]⟩ : ByteArray)).bind fun bt110 => (if bt104.2 = 0 then (if bt108.2 = 0 then (if bt110.2 = 0 then (if bt108.1 = true then (if bt110.1 = true then (some ((bt104.1.length : Int) == 8)) else (some false)) else (some false)) else (some false)) else (some false)) else (some false))))
set_option maxHeartbeats 8000000 in
set_option maxRecDepth 100000 in
theorem millhandlaw13_alive.calls  (r : Bool) (w : World) (h : millhandlaw13_alive.f  = some r) :
    Calls Try.prog 9 #[] w fun e w' => e = .returned (.bool r) ∧ Below w.heap.size w w' := by
  have HB := Aside0.mk (Below.refl w.heap.size w)
  have H : ((sieve_Make.f (([(⟨#[97]⟩ : ByteArray), (⟨#[98]⟩ : ByteArray)] : List ByteArray))).bind fun bt104 => ((sieve_May.f bt104.1 (⟨#[97]⟩ : ByteArray)).bind fun bt108 => ((sieve_May.f bt104.1 (⟨#[98]⟩ : ByteArray)).bind fun bt110 => (if bt104.2 = 0 then (if bt108.2 = 0 then (if bt110.2 = 0 then (if bt108.1 = true then (if bt110.1 = true then (some ((bt104.1.length : Int) == 8)) else (some false)) else (some false)) else (some false)) else (some false)) else (some false))))) = some r := h
  clear h
  obtain ⟨y101, hy101⟩ : ∃ y_ : List ByteArray, y_ = (([(⟨#[97]⟩ : ByteArray), (⟨#[98]⟩ : ByteArray)] : List ByteArray)) := ⟨_, rfl⟩
  replace H : ((sieve_Make.f y101).bind fun bt104 => ((sieve_May.f bt104.1 (⟨#[97]⟩ : ByteArray)).bind fun bt108 => ((sieve_May.f bt104.1 (⟨#[98]⟩ : ByteArray)).bind fun bt110 => (if bt104.2 = 0 then (if bt108.2 = 0 then (if bt110.2 = 0 then (if bt108.1 = true then (if bt110.1 = true then (some ((bt104.1.length : Int) == 8)) else (some false)) else (some false)) else (some false)) else (some false)) else (some false))))) = some r := by first | (rw [hy101]; with_reducible exact H) | (have H2_ := (Option.bind_some _ _).symm.trans H; rw [hy101]; with_reducible exact H2_) | (have H2_ := (Option.bind_some _ _).symm.trans H; with_reducible exact H2_) | with_reducible exact H | (rw [hy101]; exact H) | exact H
  have Ny101 := Aside0.mk hy101
  clear hy101
  replace H := Option.bind_eq_some_iff.mp H
  obtain ⟨⟨t104, t105⟩, A10, H⟩ := H
  replace H : ((sieve_May.f t104 (⟨#[97]⟩ : ByteArray)).bind fun bt108 => ((sieve_May.f t104 (⟨#[98]⟩ : ByteArray)).bind fun bt110 => (if t105 = 0 then (if bt108.2 = 0 then (if bt110.2 = 0 then (if bt108.1 = true then (if bt110.1 = true then (some ((t104.length : Int) == 8)) else (some false)) else (some false)) else (some false)) else (some false)) else (some false)))) = some r := H
  have A1 := Aside0.mk A10
  clear A10
  replace H := Option.bind_eq_some_iff.mp H
  obtain ⟨⟨t108, t109⟩, A20, H⟩ := H
  replace H : ((sieve_May.f t104 (⟨#[98]⟩ : ByteArray)).bind fun bt110 => (if t105 = 0 then (if t109 = 0 then (if bt110.2 = 0 then (if t108 = true then (if bt110.1 = true then (some ((t104.length : Int) == 8)) else (some false)) else (some false)) else (some false)) else (some false)) else (some false))) = some r := H
  have A2 := Aside0.mk A20
  clear A20
  replace H := Option.bind_eq_some_iff.mp H
  obtain ⟨⟨t110, t111⟩, A30, H⟩ := H
  replace H : (if t105 = 0 then (if t109 = 0 then (if t111 = 0 then (if t108 = true then (if t110 = true then (some ((t104.length : Int) == 8)) else (some false)) else (some false)) else (some false)) else (some false)) else (some false)) = some r := H
  have A3 := Aside0.mk A30
  clear A30
  by_cases c4 : t105 = 0
  · rw [if_pos c4] at H
    have c4b0 : (t105 == 0) = true := beq_iff_eq.mpr c4
    have c4b1 : (t105 != 0) = false := bne_eq_false_iff_eq.mpr c4
    clear c4
    by_cases c5 : t109 = 0
    · rw [if_pos c5] at H
      have c5b0 : (t109 == 0) = true := beq_iff_eq.mpr c5
      have c5b1 : (t109 != 0) = false := bne_eq_false_iff_eq.mpr c5
      clear c5
      by_cases c6 : t111 = 0
      · rw [if_pos c6] at H
        have c6b0 : (t111 == 0) = true := beq_iff_eq.mpr c6
        have c6b1 : (t111 != 0) = false := bne_eq_false_iff_eq.mpr c6
        clear c6
        by_cases c7 : t108 = true
        · subst c7
          have H1 : (if t110 = true then (some ((t104.length : Int) == 8)) else (some false)) = some r := by rw [if_pos rfl] at H; exact H
          clear H
          have H := H1
          clear H1
          by_cases c8 : t110 = true
          · subst c8
            have H1 : (some ((t104.length : Int) == 8)) = some r := by rw [if_pos rfl] at H; exact H
            clear H
            have H := H1
            clear H1
            obtain rfl := Option.some.inj H
            go_enter Try.func9, Try.ntmps9
            go_wp2_with (first | ((with_reducible refine gate_dst (N := 8) rfl ?_); (try (refine gate_guard (by rfl) ?_; dsimp only)); refine Kd.R_lit Kd.string _ 9 ?hg (N := 8) ?hd (xs := ([(⟨#[97]⟩ : ByteArray), (⟨#[98]⟩ : ByteArray)] : List ByteArray)) (inner := [.string (⟨#[97]⟩ : ByteArray), .string (⟨#[98]⟩ : ByteArray)]) (ok := fun _ => True) (okp := fun _ => True) ?hr ?hp (fun _ hk => hk) trivial (Below.refl _ _) (Nat.le_refl _) (by simp) ?_; (case hd => rfl); (case hg => rfl); (case hr => first | (go_simp; done) | (go_simp; rfl)); (case hp => exact (Reps.one (show Kd.M Kd.string _ _ _ (⟨#[97]⟩ : ByteArray) [.string (⟨#[97]⟩ : ByteArray)] from rfl) (Reps.one (show Kd.M Kd.string _ _ _ (⟨#[98]⟩ : ByteArray) [.string (⟨#[98]⟩ : ByteArray)] from rfl) (Reps.none _ _)))); intro v102 w9 ho10 hb hg_ hnew_; clear hg_ hnew_; (first | rw [← Ny101.out] at ho10 | (simp only [Int.reduceToNat] at ho10; rw [← Ny101.out] at ho10)); have n0_ := Aside0.mk (Kd.R_lower ho10 (below_size (by repeat (first | (with_reducible first | exact HB.out | apply below_alloc | apply pw_below_drewN | apply below_drew1) | exact HB.out)))); have n1_ := Aside0.mk (below_step (by repeat (first | (with_reducible first | exact HB.out | apply below_alloc | apply pw_below_drewN | apply below_drew1) | exact HB.out)) hb); clear HB; have HO103 := n0_; have HB := n1_; clear n0_ n1_; clear hb ho10; obtain ⟨Ao11, co11, eo11⟩ := Kd.R_slice HO103.out; subst eo11) | ((with_reducible refine gate_callee (f := 7) rfl ?_); refine goesL_ (some 9) rfl rfl Try.func7 (by kernel_rfl) rfl #[.slice Ao11 y101.length co11] rfl (by (try simp only [List.map_toArray, List.map_cons, List.map_nil]); first | done | rfl | (simp only [List.length_drop, List.length_take]; rfl)) ?_; (with_reducible refine (sieve_Make.calls _ _ y101 t104 t105 _ ?side1 ?side2 A1.out).mono ?_); (case side1 => repeat (first | exact (Kd.R_reads' HO103.out).2.2 | (with_reducible refine Kd.C_alloc ?_ _) | (with_reducible refine Kd.C_drewN ?_ _) | (with_reducible refine Kd.C_drew ?_))); (case side2 => exact (Kd.R_reads' HO103.out).2.1); rintro e w12 ⟨v106, rfl, ho0, hb⟩; refine ⟨_, rfl, ?_⟩; have n0_ := Aside0.mk (Kd.R_below (by (with_reducible repeat (first | apply Kd.R_alloc | apply Kd.R_drewN | apply Kd.R_drew)); exact HO103.out) hb); have n1_ := Aside0.mk (Kd.R_lower ho0 (below_size (by repeat (first | (with_reducible first | exact HB.out | apply below_alloc | apply pw_below_drewN | apply below_drew1) | exact HB.out)))); have n2_ := Aside0.mk (below_step (by repeat (first | (with_reducible first | exact HB.out | apply below_alloc | apply pw_below_drewN | apply below_drew1) | exact HB.out)) hb); clear HO103; clear HB; have HO103 := n0_; have HO107 := n1_; have HB := n2_; clear n0_ n1_ n2_; (try clear hb); (try clear hb2); (try clear hk); (try clear hi); (try clear ho0); obtain ⟨Ao13, co13, eo13⟩ := Kd.R_slice HO107.out; subst eo13) | ((with_reducible refine gate_callee (f := 8) rfl ?_); refine goesL_ (some 14) rfl rfl Try.func8 (by kernel_rfl) rfl #[.slice Ao13 t104.length co13, .string (⟨#[97]⟩ : ByteArray)] rfl (by (try simp only [List.map_toArray, List.map_cons, List.map_nil]); first | done | rfl | (simp only [List.length_drop, List.length_take]; rfl)) ?_; (with_reducible refine (sieve_May.calls _ _ t104 (⟨#[97]⟩ : ByteArray) true t109 _ ?side1 ?side2 A2.out).mono ?_); (case side1 => repeat (first | exact (Kd.R_reads' HO107.out).2.2 | (with_reducible refine Kd.C_alloc ?_ _) | (with_reducible refine Kd.C_drewN ?_ _) | (with_reducible refine Kd.C_drew ?_))); (case side2 => exact (Kd.R_reads' HO107.out).2.1); rintro e w14 ⟨rfl, hb⟩; refine ⟨_, rfl, ?_⟩; have n0_ := Aside0.mk (Kd.R_below (by (with_reducible repeat (first | apply Kd.R_alloc | apply Kd.R_drewN | apply Kd.R_drew)); exact HO103.out) hb); have n1_ := Aside0.mk (Kd.R_below (by (with_reducible repeat (first | apply Kd.R_alloc | apply Kd.R_drewN | apply Kd.R_drew)); exact HO107.out) hb); have n2_ := Aside0.mk (below_step (by repeat (first | (with_reducible first | exact HB.out | apply below_alloc | apply pw_below_drewN | apply below_drew1) | exact HB.out)) hb); clear HO103; clear HO107; clear HB; have HO103 := n0_; have HO107 := n1_; have HB := n2_; clear n0_ n1_ n2_; (try clear hb); (try clear hb2); (try clear hk); (try clear hi)) | ((with_reducible refine gate_callee (f := 8) rfl ?_); refine goesL_ (some 19) rfl rfl Try.func8 (by kernel_rfl) rfl #[.slice Ao13 t104.length co13, .string (⟨#[98]⟩ : ByteArray)] rfl (by (try simp only [List.map_toArray, List.map_cons, List.map_nil]); first | done | rfl | (simp only [List.length_drop, List.length_take]; rfl)) ?_; (with_reducible refine (sieve_May.calls _ _ t104 (⟨#[98]⟩ : ByteArray) true t111 _ ?side1 ?side2 A3.out).mono ?_); (case side1 => repeat (first | exact (Kd.R_reads' HO107.out).2.2 | (with_reducible refine Kd.C_alloc ?_ _) | (with_reducible refine Kd.C_drewN ?_ _) | (with_reducible refine Kd.C_drew ?_))); (case side2 => exact (Kd.R_reads' HO107.out).2.1); rintro e w15 ⟨rfl, hb⟩; refine ⟨_, rfl, ?_⟩; have n0_ := Aside0.mk (Kd.R_below (by (with_reducible repeat (first | apply Kd.R_alloc | apply Kd.R_drewN | apply Kd.R_drew)); exact HO103.out) hb); have n1_ := Aside0.mk (Kd.R_below (by (with_reducible repeat (first | apply Kd.R_alloc | apply Kd.R_drewN | apply Kd.R_drew)); exact HO107.out) hb); have n2_ := Aside0.mk (below_step (by repeat (first | (with_reducible first | exact HB.out | apply below_alloc | apply pw_below_drewN | apply below_drew1) | exact HB.out)) hb); clear HO103; clear HO107; clear HB; have HO103 := n0_; have HO107 := n1_; have HB := n2_; clear n0_ n1_ n2_; (try clear hb); (try clear hb2); (try clear hk); (try clear hi)))
            go_ret
            exact ⟨by first | rfl | (simp [errW_none, errW_some] <;> rfl) | (simp [*, errW_none, errW_some] <;> rfl) | exact ret_ie _ | (simp [*, errW_none, errW_some, bne]; done), by repeat (first | (with_reducible first | exact HB.out | apply below_alloc | apply pw_below_drewN | apply below_drew1) | exact HB.out)⟩
          · replace c8 := Bool.eq_false_iff.mpr c8
            subst c8
            have H1 : (some false) = some r := by rw [if_neg (show ¬ (false = true) by decide)] at H; exact H
            clear H
            have H := H1
            clear H1
            obtain rfl := Option.some.inj H
            go_enter Try.func9, Try.ntmps9
            go_wp2_with (first | ((with_reducible refine gate_dst (N := 8) rfl ?_); (try (refine gate_guard (by rfl) ?_; dsimp only)); refine Kd.R_lit Kd.string _ 9 ?hg (N := 8) ?hd (xs := ([(⟨#[97]⟩ : ByteArray), (⟨#[98]⟩ : ByteArray)] : List ByteArray)) (inner := [.string (⟨#[97]⟩ : ByteArray), .string (⟨#[98]⟩ : ByteArray)]) (ok := fun _ => True) (okp := fun _ => True) ?hr ?hp (fun _ hk => hk) trivial (Below.refl _ _) (Nat.le_refl _) (by simp) ?_; (case hd => rfl); (case hg => rfl); (case hr => first | (go_simp; done) | (go_simp; rfl)); (case hp => exact (Reps.one (show Kd.M Kd.string _ _ _ (⟨#[97]⟩ : ByteArray) [.string (⟨#[97]⟩ : ByteArray)] from rfl) (Reps.one (show Kd.M Kd.string _ _ _ (⟨#[98]⟩ : ByteArray) [.string (⟨#[98]⟩ : ByteArray)] from rfl) (Reps.none _ _)))); intro v102 w16 ho17 hb hg_ hnew_; clear hg_ hnew_; (first | rw [← Ny101.out] at ho17 | (simp only [Int.reduceToNat] at ho17; rw [← Ny101.out] at ho17)); have n0_ := Aside0.mk (Kd.R_lower ho17 (below_size (by repeat (first | (with_reducible first | exact HB.out | apply below_alloc | apply pw_below_drewN | apply below_drew1) | exact HB.out)))); have n1_ := Aside0.mk (below_step (by repeat (first | (with_reducible first | exact HB.out | apply below_alloc | apply pw_below_drewN | apply below_drew1) | exact HB.out)) hb); clear HB; have HO103 := n0_; have HB := n1_; clear n0_ n1_; clear hb ho17; obtain ⟨Ao18, co18, eo18⟩ := Kd.R_slice HO103.out; subst eo18) | ((with_reducible refine gate_callee (f := 7) rfl ?_); refine goesL_ (some 9) rfl rfl Try.func7 (by kernel_rfl) rfl #[.slice Ao18 y101.length co18] rfl (by (try simp only [List.map_toArray, List.map_cons, List.map_nil]); first | done | rfl | (simp only [List.length_drop, List.length_take]; rfl)) ?_; (with_reducible refine (sieve_Make.calls _ _ y101 t104 t105 _ ?side1 ?side2 A1.out).mono ?_); (case side1 => repeat (first | exact (Kd.R_reads' HO103.out).2.2 | (with_reducible refine Kd.C_alloc ?_ _) | (with_reducible refine Kd.C_drewN ?_ _) | (with_reducible refine Kd.C_drew ?_))); (case side2 => exact (Kd.R_reads' HO103.out).2.1); rintro e w19 ⟨v106, rfl, ho0, hb⟩; refine ⟨_, rfl, ?_⟩; have n0_ := Aside0.mk (Kd.R_below (by (with_reducible repeat (first | apply Kd.R_alloc | apply Kd.R_drewN | apply Kd.R_drew)); exact HO103.out) hb); have n1_ := Aside0.mk (Kd.R_lower ho0 (below_size (by repeat (first | (with_reducible first | exact HB.out | apply below_alloc | apply pw_below_drewN | apply below_drew1) | exact HB.out)))); have n2_ := Aside0.mk (below_step (by repeat (first | (with_reducible first | exact HB.out | apply below_alloc | apply pw_below_drewN | apply below_drew1) | exact HB.out)) hb); clear HO103; clear HB; have HO103 := n0_; have HO107 := n1_; have HB := n2_; clear n0_ n1_ n2_; (try clear hb); (try clear hb2); (try clear hk); (try clear hi); (try clear ho0); obtain ⟨Ao20, co20, eo20⟩ := Kd.R_slice HO107.out; subst eo20) | ((with_reducible refine gate_callee (f := 8) rfl ?_); refine goesL_ (some 14) rfl rfl Try.func8 (by kernel_rfl) rfl #[.slice Ao20 t104.length co20, .string (⟨#[97]⟩ : ByteArray)] rfl (by (try simp only [List.map_toArray, List.map_cons, List.map_nil]); first | done | rfl | (simp only [List.length_drop, List.length_take]; rfl)) ?_; (with_reducible refine (sieve_May.calls _ _ t104 (⟨#[97]⟩ : ByteArray) true t109 _ ?side1 ?side2 A2.out).mono ?_); (case side1 => repeat (first | exact (Kd.R_reads' HO107.out).2.2 | (with_reducible refine Kd.C_alloc ?_ _) | (with_reducible refine Kd.C_drewN ?_ _) | (with_reducible refine Kd.C_drew ?_))); (case side2 => exact (Kd.R_reads' HO107.out).2.1); rintro e w21 ⟨rfl, hb⟩; refine ⟨_, rfl, ?_⟩; have n0_ := Aside0.mk (Kd.R_below (by (with_reducible repeat (first | apply Kd.R_alloc | apply Kd.R_drewN | apply Kd.R_drew)); exact HO103.out) hb); have n1_ := Aside0.mk (Kd.R_below (by (with_reducible repeat (first | apply Kd.R_alloc | apply Kd.R_drewN | apply Kd.R_drew)); exact HO107.out) hb); have n2_ := Aside0.mk (below_step (by repeat (first | (with_reducible first | exact HB.out | apply below_alloc | apply pw_below_drewN | apply below_drew1) | exact HB.out)) hb); clear HO103; clear HO107; clear HB; have HO103 := n0_; have HO107 := n1_; have HB := n2_; clear n0_ n1_ n2_; (try clear hb); (try clear hb2); (try clear hk); (try clear hi)) | ((with_reducible refine gate_callee (f := 8) rfl ?_); refine goesL_ (some 19) rfl rfl Try.func8 (by kernel_rfl) rfl #[.slice Ao20 t104.length co20, .string (⟨#[98]⟩ : ByteArray)] rfl (by (try simp only [List.map_toArray, List.map_cons, List.map_nil]); first | done | rfl | (simp only [List.length_drop, List.length_take]; rfl)) ?_; (with_reducible refine (sieve_May.calls _ _ t104 (⟨#[98]⟩ : ByteArray) false t111 _ ?side1 ?side2 A3.out).mono ?_); (case side1 => repeat (first | exact (Kd.R_reads' HO107.out).2.2 | (with_reducible refine Kd.C_alloc ?_ _) | (with_reducible refine Kd.C_drewN ?_ _) | (with_reducible refine Kd.C_drew ?_))); (case side2 => exact (Kd.R_reads' HO107.out).2.1); rintro e w22 ⟨rfl, hb⟩; refine ⟨_, rfl, ?_⟩; have n0_ := Aside0.mk (Kd.R_below (by (with_reducible repeat (first | apply Kd.R_alloc | apply Kd.R_drewN | apply Kd.R_drew)); exact HO103.out) hb); have n1_ := Aside0.mk (Kd.R_below (by (with_reducible repeat (first | apply Kd.R_alloc | apply Kd.R_drewN | apply Kd.R_drew)); exact HO107.out) hb); have n2_ := Aside0.mk (below_step (by repeat (first | (with_reducible first | exact HB.out | apply below_alloc | apply pw_below_drewN | apply below_drew1) | exact HB.out)) hb); clear HO103; clear HO107; clear HB; have HO103 := n0_; have HO107 := n1_; have HB := n2_; clear n0_ n1_ n2_; (try clear hb); (try clear hb2); (try clear hk); (try clear hi)))
            go_ret
            exact ⟨by first | rfl | (simp [errW_none, errW_some] <;> rfl) | (simp [*, errW_none, errW_some] <;> rfl) | exact ret_ie _ | (simp [*, errW_none, errW_some, bne]; done), by repeat (first | (with_reducible first | exact HB.out | apply below_alloc | apply pw_below_drewN | apply below_drew1) | exact HB.out)⟩
        · replace c7 := Bool.eq_false_iff.mpr c7
          subst c7
          have H1 : (some false) = some r := by rw [if_neg (show ¬ (false = true) by decide)] at H; exact H
          clear H
          have H := H1
          clear H1
          obtain rfl := Option.some.inj H
          go_enter Try.func9, Try.ntmps9
          go_wp2_with (first | ((with_reducible refine gate_dst (N := 8) rfl ?_); (try (refine gate_guard (by rfl) ?_; dsimp only)); refine Kd.R_lit Kd.string _ 9 ?hg (N := 8) ?hd (xs := ([(⟨#[97]⟩ : ByteArray), (⟨#[98]⟩ : ByteArray)] : List ByteArray)) (inner := [.string (⟨#[97]⟩ : ByteArray), .string (⟨#[98]⟩ : ByteArray)]) (ok := fun _ => True) (okp := fun _ => True) ?hr ?hp (fun _ hk => hk) trivial (Below.refl _ _) (Nat.le_refl _) (by simp) ?_; (case hd => rfl); (case hg => rfl); (case hr => first | (go_simp; done) | (go_simp; rfl)); (case hp => exact (Reps.one (show Kd.M Kd.string _ _ _ (⟨#[97]⟩ : ByteArray) [.string (⟨#[97]⟩ : ByteArray)] from rfl) (Reps.one (show Kd.M Kd.string _ _ _ (⟨#[98]⟩ : ByteArray) [.string (⟨#[98]⟩ : ByteArray)] from rfl) (Reps.none _ _)))); intro v102 w23 ho24 hb hg_ hnew_; clear hg_ hnew_; (first | rw [← Ny101.out] at ho24 | (simp only [Int.reduceToNat] at ho24; rw [← Ny101.out] at ho24)); have n0_ := Aside0.mk (Kd.R_lower ho24 (below_size (by repeat (first | (with_reducible first | exact HB.out | apply below_alloc | apply pw_below_drewN | apply below_drew1) | exact HB.out)))); have n1_ := Aside0.mk (below_step (by repeat (first | (with_reducible first | exact HB.out | apply below_alloc | apply pw_below_drewN | apply below_drew1) | exact HB.out)) hb); clear HB; have HO103 := n0_; have HB := n1_; clear n0_ n1_; clear hb ho24; obtain ⟨Ao25, co25, eo25⟩ := Kd.R_slice HO103.out; subst eo25) | ((with_reducible refine gate_callee (f := 7) rfl ?_); refine goesL_ (some 9) rfl rfl Try.func7 (by kernel_rfl) rfl #[.slice Ao25 y101.length co25] rfl (by (try simp only [List.map_toArray, List.map_cons, List.map_nil]); first | done | rfl | (simp only [List.length_drop, List.length_take]; rfl)) ?_; (with_reducible refine (sieve_Make.calls _ _ y101 t104 t105 _ ?side1 ?side2 A1.out).mono ?_); (case side1 => repeat (first | exact (Kd.R_reads' HO103.out).2.2 | (with_reducible refine Kd.C_alloc ?_ _) | (with_reducible refine Kd.C_drewN ?_ _) | (with_reducible refine Kd.C_drew ?_))); (case side2 => exact (Kd.R_reads' HO103.out).2.1); rintro e w26 ⟨v106, rfl, ho0, hb⟩; refine ⟨_, rfl, ?_⟩; have n0_ := Aside0.mk (Kd.R_below (by (with_reducible repeat (first | apply Kd.R_alloc | apply Kd.R_drewN | apply Kd.R_drew)); exact HO103.out) hb); have n1_ := Aside0.mk (Kd.R_lower ho0 (below_size (by repeat (first | (with_reducible first | exact HB.out | apply below_alloc | apply pw_below_drewN | apply below_drew1) | exact HB.out)))); have n2_ := Aside0.mk (below_step (by repeat (first | (with_reducible first | exact HB.out | apply below_alloc | apply pw_below_drewN | apply below_drew1) | exact HB.out)) hb); clear HO103; clear HB; have HO103 := n0_; have HO107 := n1_; have HB := n2_; clear n0_ n1_ n2_; (try clear hb); (try clear hb2); (try clear hk); (try clear hi); (try clear ho0); obtain ⟨Ao27, co27, eo27⟩ := Kd.R_slice HO107.out; subst eo27) | ((with_reducible refine gate_callee (f := 8) rfl ?_); refine goesL_ (some 14) rfl rfl Try.func8 (by kernel_rfl) rfl #[.slice Ao27 t104.length co27, .string (⟨#[97]⟩ : ByteArray)] rfl (by (try simp only [List.map_toArray, List.map_cons, List.map_nil]); first | done | rfl | (simp only [List.length_drop, List.length_take]; rfl)) ?_; (with_reducible refine (sieve_May.calls _ _ t104 (⟨#[97]⟩ : ByteArray) false t109 _ ?side1 ?side2 A2.out).mono ?_); (case side1 => repeat (first | exact (Kd.R_reads' HO107.out).2.2 | (with_reducible refine Kd.C_alloc ?_ _) | (with_reducible refine Kd.C_drewN ?_ _) | (with_reducible refine Kd.C_drew ?_))); (case side2 => exact (Kd.R_reads' HO107.out).2.1); rintro e w28 ⟨rfl, hb⟩; refine ⟨_, rfl, ?_⟩; have n0_ := Aside0.mk (Kd.R_below (by (with_reducible repeat (first | apply Kd.R_alloc | apply Kd.R_drewN | apply Kd.R_drew)); exact HO103.out) hb); have n1_ := Aside0.mk (Kd.R_below (by (with_reducible repeat (first | apply Kd.R_alloc | apply Kd.R_drewN | apply Kd.R_drew)); exact HO107.out) hb); have n2_ := Aside0.mk (below_step (by repeat (first | (with_reducible first | exact HB.out | apply below_alloc | apply pw_below_drewN | apply below_drew1) | exact HB.out)) hb); clear HO103; clear HO107; clear HB; have HO103 := n0_; have HO107 := n1_; have HB := n2_; clear n0_ n1_ n2_; (try clear hb); (try clear hb2); (try clear hk); (try clear hi)) | ((with_reducible refine gate_callee (f := 8) rfl ?_); refine goesL_ (some 19) rfl rfl Try.func8 (by kernel_rfl) rfl #[.slice Ao27 t104.length co27, .string (⟨#[98]⟩ : ByteArray)] rfl (by (try simp only [List.map_toArray, List.map_cons, List.map_nil]); first | done | rfl | (simp only [List.length_drop, List.length_take]; rfl)) ?_; (with_reducible refine (sieve_May.calls _ _ t104 (⟨#[98]⟩ : ByteArray) t110 t111 _ ?side1 ?side2 A3.out).mono ?_); (case side1 => repeat (first | exact (Kd.R_reads' HO107.out).2.2 | (with_reducible refine Kd.C_alloc ?_ _) | (with_reducible refine Kd.C_drewN ?_ _) | (with_reducible refine Kd.C_drew ?_))); (case side2 => exact (Kd.R_reads' HO107.out).2.1); rintro e w29 ⟨rfl, hb⟩; refine ⟨_, rfl, ?_⟩; have n0_ := Aside0.mk (Kd.R_below (by (with_reducible repeat (first | apply Kd.R_alloc | apply Kd.R_drewN | apply Kd.R_drew)); exact HO103.out) hb); have n1_ := Aside0.mk (Kd.R_below (by (with_reducible repeat (first | apply Kd.R_alloc | apply Kd.R_drewN | apply Kd.R_drew)); exact HO107.out) hb); have n2_ := Aside0.mk (below_step (by repeat (first | (with_reducible first | exact HB.out | apply below_alloc | apply pw_below_drewN | apply below_drew1) | exact HB.out)) hb); clear HO103; clear HO107; clear HB; have HO103 := n0_; have HO107 := n1_; have HB := n2_; clear n0_ n1_ n2_; (try clear hb); (try clear hb2); (try clear hk); (try clear hi)))
          go_ret
          exact ⟨by first | rfl | (simp [errW_none, errW_some] <;> rfl) | (simp [*, errW_none, errW_some] <;> rfl) | exact ret_ie _ | (simp [*, errW_none, errW_some, bne]; done), by repeat (first | (with_reducible first | exact HB.out | apply below_alloc | apply pw_below_drewN | apply below_drew1) | exact HB.out)⟩
      · rw [if_neg c6] at H
        have c6b0 : (t111 == 0) = false := beq_eq_false_iff_ne.mpr c6
        have c6b1 : (t111 != 0) = true := bne_iff_ne.mpr c6
        obtain rfl := Option.some.inj H
        go_enter Try.func9, Try.ntmps9
        go_wp2_with (first | ((with_reducible refine gate_dst (N := 8) rfl ?_); (try (refine gate_guard (by rfl) ?_; dsimp only)); refine Kd.R_lit Kd.string _ 9 ?hg (N := 8) ?hd (xs := ([(⟨#[97]⟩ : ByteArray), (⟨#[98]⟩ : ByteArray)] : List ByteArray)) (inner := [.string (⟨#[97]⟩ : ByteArray), .string (⟨#[98]⟩ : ByteArray)]) (ok := fun _ => True) (okp := fun _ => True) ?hr ?hp (fun _ hk => hk) trivial (Below.refl _ _) (Nat.le_refl _) (by simp) ?_; (case hd => rfl); (case hg => rfl); (case hr => first | (go_simp; done) | (go_simp; rfl)); (case hp => exact (Reps.one (show Kd.M Kd.string _ _ _ (⟨#[97]⟩ : ByteArray) [.string (⟨#[97]⟩ : ByteArray)] from rfl) (Reps.one (show Kd.M Kd.string _ _ _ (⟨#[98]⟩ : ByteArray) [.string (⟨#[98]⟩ : ByteArray)] from rfl) (Reps.none _ _)))); intro v102 w30 ho31 hb hg_ hnew_; clear hg_ hnew_; (first | rw [← Ny101.out] at ho31 | (simp only [Int.reduceToNat] at ho31; rw [← Ny101.out] at ho31)); have n0_ := Aside0.mk (Kd.R_lower ho31 (below_size (by repeat (first | (with_reducible first | exact HB.out | apply below_alloc | apply pw_below_drewN | apply below_drew1) | exact HB.out)))); have n1_ := Aside0.mk (below_step (by repeat (first | (with_reducible first | exact HB.out | apply below_alloc | apply pw_below_drewN | apply below_drew1) | exact HB.out)) hb); clear HB; have HO103 := n0_; have HB := n1_; clear n0_ n1_; clear hb ho31; obtain ⟨Ao32, co32, eo32⟩ := Kd.R_slice HO103.out; subst eo32) | ((with_reducible refine gate_callee (f := 7) rfl ?_); refine goesL_ (some 9) rfl rfl Try.func7 (by kernel_rfl) rfl #[.slice Ao32 y101.length co32] rfl (by (try simp only [List.map_toArray, List.map_cons, List.map_nil]); first | done | rfl | (simp only [List.length_drop, List.length_take]; rfl)) ?_; (with_reducible refine (sieve_Make.calls _ _ y101 t104 t105 _ ?side1 ?side2 A1.out).mono ?_); (case side1 => repeat (first | exact (Kd.R_reads' HO103.out).2.2 | (with_reducible refine Kd.C_alloc ?_ _) | (with_reducible refine Kd.C_drewN ?_ _) | (with_reducible refine Kd.C_drew ?_))); (case side2 => exact (Kd.R_reads' HO103.out).2.1); rintro e w33 ⟨v106, rfl, ho0, hb⟩; refine ⟨_, rfl, ?_⟩; have n0_ := Aside0.mk (Kd.R_below (by (with_reducible repeat (first | apply Kd.R_alloc | apply Kd.R_drewN | apply Kd.R_drew)); exact HO103.out) hb); have n1_ := Aside0.mk (Kd.R_lower ho0 (below_size (by repeat (first | (with_reducible first | exact HB.out | apply below_alloc | apply pw_below_drewN | apply below_drew1) | exact HB.out)))); have n2_ := Aside0.mk (below_step (by repeat (first | (with_reducible first | exact HB.out | apply below_alloc | apply pw_below_drewN | apply below_drew1) | exact HB.out)) hb); clear HO103; clear HB; have HO103 := n0_; have HO107 := n1_; have HB := n2_; clear n0_ n1_ n2_; (try clear hb); (try clear hb2); (try clear hk); (try clear hi); (try clear ho0); obtain ⟨Ao34, co34, eo34⟩ := Kd.R_slice HO107.out; subst eo34) | ((with_reducible refine gate_callee (f := 8) rfl ?_); refine goesL_ (some 14) rfl rfl Try.func8 (by kernel_rfl) rfl #[.slice Ao34 t104.length co34, .string (⟨#[97]⟩ : ByteArray)] rfl (by (try simp only [List.map_toArray, List.map_cons, List.map_nil]); first | done | rfl | (simp only [List.length_drop, List.length_take]; rfl)) ?_; (with_reducible refine (sieve_May.calls _ _ t104 (⟨#[97]⟩ : ByteArray) t108 t109 _ ?side1 ?side2 A2.out).mono ?_); (case side1 => repeat (first | exact (Kd.R_reads' HO107.out).2.2 | (with_reducible refine Kd.C_alloc ?_ _) | (with_reducible refine Kd.C_drewN ?_ _) | (with_reducible refine Kd.C_drew ?_))); (case side2 => exact (Kd.R_reads' HO107.out).2.1); rintro e w35 ⟨rfl, hb⟩; refine ⟨_, rfl, ?_⟩; have n0_ := Aside0.mk (Kd.R_below (by (with_reducible repeat (first | apply Kd.R_alloc | apply Kd.R_drewN | apply Kd.R_drew)); exact HO103.out) hb); have n1_ := Aside0.mk (Kd.R_below (by (with_reducible repeat (first | apply Kd.R_alloc | apply Kd.R_drewN | apply Kd.R_drew)); exact HO107.out) hb); have n2_ := Aside0.mk (below_step (by repeat (first | (with_reducible first | exact HB.out | apply below_alloc | apply pw_below_drewN | apply below_drew1) | exact HB.out)) hb); clear HO103; clear HO107; clear HB; have HO103 := n0_; have HO107 := n1_; have HB := n2_; clear n0_ n1_ n2_; (try clear hb); (try clear hb2); (try clear hk); (try clear hi)) | ((with_reducible refine gate_callee (f := 8) rfl ?_); refine goesL_ (some 19) rfl rfl Try.func8 (by kernel_rfl) rfl #[.slice Ao34 t104.length co34, .string (⟨#[98]⟩ : ByteArray)] rfl (by (try simp only [List.map_toArray, List.map_cons, List.map_nil]); first | done | rfl | (simp only [List.length_drop, List.length_take]; rfl)) ?_; (with_reducible refine (sieve_May.calls _ _ t104 (⟨#[98]⟩ : ByteArray) t110 t111 _ ?side1 ?side2 A3.out).mono ?_); (case side1 => repeat (first | exact (Kd.R_reads' HO107.out).2.2 | (with_reducible refine Kd.C_alloc ?_ _) | (with_reducible refine Kd.C_drewN ?_ _) | (with_reducible refine Kd.C_drew ?_))); (case side2 => exact (Kd.R_reads' HO107.out).2.1); rintro e w36 ⟨rfl, hb⟩; refine ⟨_, rfl, ?_⟩; have n0_ := Aside0.mk (Kd.R_below (by (with_reducible repeat (first | apply Kd.R_alloc | apply Kd.R_drewN | apply Kd.R_drew)); exact HO103.out) hb); have n1_ := Aside0.mk (Kd.R_below (by (with_reducible repeat (first | apply Kd.R_alloc | apply Kd.R_drewN | apply Kd.R_drew)); exact HO107.out) hb); have n2_ := Aside0.mk (below_step (by repeat (first | (with_reducible first | exact HB.out | apply below_alloc | apply pw_below_drewN | apply below_drew1) | exact HB.out)) hb); clear HO103; clear HO107; clear HB; have HO103 := n0_; have HO107 := n1_; have HB := n2_; clear n0_ n1_ n2_; (try clear hb); (try clear hb2); (try clear hk); (try clear hi)))
        go_ret
        exact ⟨by first | rfl | (simp [errW_none, errW_some] <;> rfl) | (simp [*, errW_none, errW_some] <;> rfl) | exact ret_ie _ | (simp [*, errW_none, errW_some, bne]; done), by repeat (first | (with_reducible first | exact HB.out | apply below_alloc | apply pw_below_drewN | apply below_drew1) | exact HB.out)⟩
    · rw [if_neg c5] at H
      have c5b0 : (t109 == 0) = false := beq_eq_false_iff_ne.mpr c5
      have c5b1 : (t109 != 0) = true := bne_iff_ne.mpr c5
      obtain rfl := Option.some.inj H
      go_enter Try.func9, Try.ntmps9
      go_wp2_with (first | ((with_reducible refine gate_dst (N := 8) rfl ?_); (try (refine gate_guard (by rfl) ?_; dsimp only)); refine Kd.R_lit Kd.string _ 9 ?hg (N := 8) ?hd (xs := ([(⟨#[97]⟩ : ByteArray), (⟨#[98]⟩ : ByteArray)] : List ByteArray)) (inner := [.string (⟨#[97]⟩ : ByteArray), .string (⟨#[98]⟩ : ByteArray)]) (ok := fun _ => True) (okp := fun _ => True) ?hr ?hp (fun _ hk => hk) trivial (Below.refl _ _) (Nat.le_refl _) (by simp) ?_; (case hd => rfl); (case hg => rfl); (case hr => first | (go_simp; done) | (go_simp; rfl)); (case hp => exact (Reps.one (show Kd.M Kd.string _ _ _ (⟨#[97]⟩ : ByteArray) [.string (⟨#[97]⟩ : ByteArray)] from rfl) (Reps.one (show Kd.M Kd.string _ _ _ (⟨#[98]⟩ : ByteArray) [.string (⟨#[98]⟩ : ByteArray)] from rfl) (Reps.none _ _)))); intro v102 w37 ho38 hb hg_ hnew_; clear hg_ hnew_; (first | rw [← Ny101.out] at ho38 | (simp only [Int.reduceToNat] at ho38; rw [← Ny101.out] at ho38)); have n0_ := Aside0.mk (Kd.R_lower ho38 (below_size (by repeat (first | (with_reducible first | exact HB.out | apply below_alloc | apply pw_below_drewN | apply below_drew1) | exact HB.out)))); have n1_ := Aside0.mk (below_step (by repeat (first | (with_reducible first | exact HB.out | apply below_alloc | apply pw_below_drewN | apply below_drew1) | exact HB.out)) hb); clear HB; have HO103 := n0_; have HB := n1_; clear n0_ n1_; clear hb ho38; obtain ⟨Ao39, co39, eo39⟩ := Kd.R_slice HO103.out; subst eo39) | ((with_reducible refine gate_callee (f := 7) rfl ?_); refine goesL_ (some 9) rfl rfl Try.func7 (by kernel_rfl) rfl #[.slice Ao39 y101.length co39] rfl (by (try simp only [List.map_toArray, List.map_cons, List.map_nil]); first | done | rfl | (simp only [List.length_drop, List.length_take]; rfl)) ?_; (with_reducible refine (sieve_Make.calls _ _ y101 t104 t105 _ ?side1 ?side2 A1.out).mono ?_); (case side1 => repeat (first | exact (Kd.R_reads' HO103.out).2.2 | (with_reducible refine Kd.C_alloc ?_ _) | (with_reducible refine Kd.C_drewN ?_ _) | (with_reducible refine Kd.C_drew ?_))); (case side2 => exact (Kd.R_reads' HO103.out).2.1); rintro e w40 ⟨v106, rfl, ho0, hb⟩; refine ⟨_, rfl, ?_⟩; have n0_ := Aside0.mk (Kd.R_below (by (with_reducible repeat (first | apply Kd.R_alloc | apply Kd.R_drewN | apply Kd.R_drew)); exact HO103.out) hb); have n1_ := Aside0.mk (Kd.R_lower ho0 (below_size (by repeat (first | (with_reducible first | exact HB.out | apply below_alloc | apply pw_below_drewN | apply below_drew1) | exact HB.out)))); have n2_ := Aside0.mk (below_step (by repeat (first | (with_reducible first | exact HB.out | apply below_alloc | apply pw_below_drewN | apply below_drew1) | exact HB.out)) hb); clear HO103; clear HB; have HO103 := n0_; have HO107 := n1_; have HB := n2_; clear n0_ n1_ n2_; (try clear hb); (try clear hb2); (try clear hk); (try clear hi); (try clear ho0); obtain ⟨Ao41, co41, eo41⟩ := Kd.R_slice HO107.out; subst eo41) | ((with_reducible refine gate_callee (f := 8) rfl ?_); refine goesL_ (some 14) rfl rfl Try.func8 (by kernel_rfl) rfl #[.slice Ao41 t104.length co41, .string (⟨#[97]⟩ : ByteArray)] rfl (by (try simp only [List.map_toArray, List.map_cons, List.map_nil]); first | done | rfl | (simp only [List.length_drop, List.length_take]; rfl)) ?_; (with_reducible refine (sieve_May.calls _ _ t104 (⟨#[97]⟩ : ByteArray) t108 t109 _ ?side1 ?side2 A2.out).mono ?_); (case side1 => repeat (first | exact (Kd.R_reads' HO107.out).2.2 | (with_reducible refine Kd.C_alloc ?_ _) | (with_reducible refine Kd.C_drewN ?_ _) | (with_reducible refine Kd.C_drew ?_))); (case side2 => exact (Kd.R_reads' HO107.out).2.1); rintro e w42 ⟨rfl, hb⟩; refine ⟨_, rfl, ?_⟩; have n0_ := Aside0.mk (Kd.R_below (by (with_reducible repeat (first | apply Kd.R_alloc | apply Kd.R_drewN | apply Kd.R_drew)); exact HO103.out) hb); have n1_ := Aside0.mk (Kd.R_below (by (with_reducible repeat (first | apply Kd.R_alloc | apply Kd.R_drewN | apply Kd.R_drew)); exact HO107.out) hb); have n2_ := Aside0.mk (below_step (by repeat (first | (with_reducible first | exact HB.out | apply below_alloc | apply pw_below_drewN | apply below_drew1) | exact HB.out)) hb); clear HO103; clear HO107; clear HB; have HO103 := n0_; have HO107 := n1_; have HB := n2_; clear n0_ n1_ n2_; (try clear hb); (try clear hb2); (try clear hk); (try clear hi)) | ((with_reducible refine gate_callee (f := 8) rfl ?_); refine goesL_ (some 19) rfl rfl Try.func8 (by kernel_rfl) rfl #[.slice Ao41 t104.length co41, .string (⟨#[98]⟩ : ByteArray)] rfl (by (try simp only [List.map_toArray, List.map_cons, List.map_nil]); first | done | rfl | (simp only [List.length_drop, List.length_take]; rfl)) ?_; (with_reducible refine (sieve_May.calls _ _ t104 (⟨#[98]⟩ : ByteArray) t110 t111 _ ?side1 ?side2 A3.out).mono ?_); (case side1 => repeat (first | exact (Kd.R_reads' HO107.out).2.2 | (with_reducible refine Kd.C_alloc ?_ _) | (with_reducible refine Kd.C_drewN ?_ _) | (with_reducible refine Kd.C_drew ?_))); (case side2 => exact (Kd.R_reads' HO107.out).2.1); rintro e w43 ⟨rfl, hb⟩; refine ⟨_, rfl, ?_⟩; have n0_ := Aside0.mk (Kd.R_below (by (with_reducible repeat (first | apply Kd.R_alloc | apply Kd.R_drewN | apply Kd.R_drew)); exact HO103.out) hb); have n1_ := Aside0.mk (Kd.R_below (by (with_reducible repeat (first | apply Kd.R_alloc | apply Kd.R_drewN | apply Kd.R_drew)); exact HO107.out) hb); have n2_ := Aside0.mk (below_step (by repeat (first | (with_reducible first | exact HB.out | apply below_alloc | apply pw_below_drewN | apply below_drew1) | exact HB.out)) hb); clear HO103; clear HO107; clear HB; have HO103 := n0_; have HO107 := n1_; have HB := n2_; clear n0_ n1_ n2_; (try clear hb); (try clear hb2); (try clear hk); (try clear hi)))
      go_ret
      exact ⟨by first | rfl | (simp [errW_none, errW_some] <;> rfl) | (simp [*, errW_none, errW_some] <;> rfl) | exact ret_ie _ | (simp [*, errW_none, errW_some, bne]; done), by repeat (first | (with_reducible first | exact HB.out | apply below_alloc | apply pw_below_drewN | apply below_drew1) | exact HB.out)⟩
  · rw [if_neg c4] at H
    have c4b0 : (t105 == 0) = false := beq_eq_false_iff_ne.mpr c4
    have c4b1 : (t105 != 0) = true := bne_iff_ne.mpr c4
    obtain rfl := Option.some.inj H
    go_enter Try.func9, Try.ntmps9
    go_wp2_with (first | ((with_reducible refine gate_dst (N := 8) rfl ?_); (try (refine gate_guard (by rfl) ?_; dsimp only)); refine Kd.R_lit Kd.string _ 9 ?hg (N := 8) ?hd (xs := ([(⟨#[97]⟩ : ByteArray), (⟨#[98]⟩ : ByteArray)] : List ByteArray)) (inner := [.string (⟨#[97]⟩ : ByteArray), .string (⟨#[98]⟩ : ByteArray)]) (ok := fun _ => True) (okp := fun _ => True) ?hr ?hp (fun _ hk => hk) trivial (Below.refl _ _) (Nat.le_refl _) (by simp) ?_; (case hd => rfl); (case hg => rfl); (case hr => first | (go_simp; done) | (go_simp; rfl)); (case hp => exact (Reps.one (show Kd.M Kd.string _ _ _ (⟨#[97]⟩ : ByteArray) [.string (⟨#[97]⟩ : ByteArray)] from rfl) (Reps.one (show Kd.M Kd.string _ _ _ (⟨#[98]⟩ : ByteArray) [.string (⟨#[98]⟩ : ByteArray)] from rfl) (Reps.none _ _)))); intro v102 w44 ho45 hb hg_ hnew_; clear hg_ hnew_; (first | rw [← Ny101.out] at ho45 | (simp only [Int.reduceToNat] at ho45; rw [← Ny101.out] at ho45)); have n0_ := Aside0.mk (Kd.R_lower ho45 (below_size (by repeat (first | (with_reducible first | exact HB.out | apply below_alloc | apply pw_below_drewN | apply below_drew1) | exact HB.out)))); have n1_ := Aside0.mk (below_step (by repeat (first | (with_reducible first | exact HB.out | apply below_alloc | apply pw_below_drewN | apply below_drew1) | exact HB.out)) hb); clear HB; have HO103 := n0_; have HB := n1_; clear n0_ n1_; clear hb ho45; obtain ⟨Ao46, co46, eo46⟩ := Kd.R_slice HO103.out; subst eo46) | ((with_reducible refine gate_callee (f := 7) rfl ?_); refine goesL_ (some 9) rfl rfl Try.func7 (by kernel_rfl) rfl #[.slice Ao46 y101.length co46] rfl (by (try simp only [List.map_toArray, List.map_cons, List.map_nil]); first | done | rfl | (simp only [List.length_drop, List.length_take]; rfl)) ?_; (with_reducible refine (sieve_Make.calls _ _ y101 t104 t105 _ ?side1 ?side2 A1.out).mono ?_); (case side1 => repeat (first | exact (Kd.R_reads' HO103.out).2.2 | (with_reducible refine Kd.C_alloc ?_ _) | (with_reducible refine Kd.C_drewN ?_ _) | (with_reducible refine Kd.C_drew ?_))); (case side2 => exact (Kd.R_reads' HO103.out).2.1); rintro e w47 ⟨v106, rfl, ho0, hb⟩; refine ⟨_, rfl, ?_⟩; have n0_ := Aside0.mk (Kd.R_below (by (with_reducible repeat (first | apply Kd.R_alloc | apply Kd.R_drewN | apply Kd.R_drew)); exact HO103.out) hb); have n1_ := Aside0.mk (Kd.R_lower ho0 (below_size (by repeat (first | (with_reducible first | exact HB.out | apply below_alloc | apply pw_below_drewN | apply below_drew1) | exact HB.out)))); have n2_ := Aside0.mk (below_step (by repeat (first | (with_reducible first | exact HB.out | apply below_alloc | apply pw_below_drewN | apply below_drew1) | exact HB.out)) hb); clear HO103; clear HB; have HO103 := n0_; have HO107 := n1_; have HB := n2_; clear n0_ n1_ n2_; (try clear hb); (try clear hb2); (try clear hk); (try clear hi); (try clear ho0); obtain ⟨Ao48, co48, eo48⟩ := Kd.R_slice HO107.out; subst eo48) | ((with_reducible refine gate_callee (f := 8) rfl ?_); refine goesL_ (some 14) rfl rfl Try.func8 (by kernel_rfl) rfl #[.slice Ao48 t104.length co48, .string (⟨#[97]⟩ : ByteArray)] rfl (by (try simp only [List.map_toArray, List.map_cons, List.map_nil]); first | done | rfl | (simp only [List.length_drop, List.length_take]; rfl)) ?_; (with_reducible refine (sieve_May.calls _ _ t104 (⟨#[97]⟩ : ByteArray) t108 t109 _ ?side1 ?side2 A2.out).mono ?_); (case side1 => repeat (first | exact (Kd.R_reads' HO107.out).2.2 | (with_reducible refine Kd.C_alloc ?_ _) | (with_reducible refine Kd.C_drewN ?_ _) | (with_reducible refine Kd.C_drew ?_))); (case side2 => exact (Kd.R_reads' HO107.out).2.1); rintro e w49 ⟨rfl, hb⟩; refine ⟨_, rfl, ?_⟩; have n0_ := Aside0.mk (Kd.R_below (by (with_reducible repeat (first | apply Kd.R_alloc | apply Kd.R_drewN | apply Kd.R_drew)); exact HO103.out) hb); have n1_ := Aside0.mk (Kd.R_below (by (with_reducible repeat (first | apply Kd.R_alloc | apply Kd.R_drewN | apply Kd.R_drew)); exact HO107.out) hb); have n2_ := Aside0.mk (below_step (by repeat (first | (with_reducible first | exact HB.out | apply below_alloc | apply pw_below_drewN | apply below_drew1) | exact HB.out)) hb); clear HO103; clear HO107; clear HB; have HO103 := n0_; have HO107 := n1_; have HB := n2_; clear n0_ n1_ n2_; (try clear hb); (try clear hb2); (try clear hk); (try clear hi)) | ((with_reducible refine gate_callee (f := 8) rfl ?_); refine goesL_ (some 19) rfl rfl Try.func8 (by kernel_rfl) rfl #[.slice Ao48 t104.length co48, .string (⟨#[98]⟩ : ByteArray)] rfl (by (try simp only [List.map_toArray, List.map_cons, List.map_nil]); first | done | rfl | (simp only [List.length_drop, List.length_take]; rfl)) ?_; (with_reducible refine (sieve_May.calls _ _ t104 (⟨#[98]⟩ : ByteArray) t110 t111 _ ?side1 ?side2 A3.out).mono ?_); (case side1 => repeat (first | exact (Kd.R_reads' HO107.out).2.2 | (with_reducible refine Kd.C_alloc ?_ _) | (with_reducible refine Kd.C_drewN ?_ _) | (with_reducible refine Kd.C_drew ?_))); (case side2 => exact (Kd.R_reads' HO107.out).2.1); rintro e w50 ⟨rfl, hb⟩; refine ⟨_, rfl, ?_⟩; have n0_ := Aside0.mk (Kd.R_below (by (with_reducible repeat (first | apply Kd.R_alloc | apply Kd.R_drewN | apply Kd.R_drew)); exact HO103.out) hb); have n1_ := Aside0.mk (Kd.R_below (by (with_reducible repeat (first | apply Kd.R_alloc | apply Kd.R_drewN | apply Kd.R_drew)); exact HO107.out) hb); have n2_ := Aside0.mk (below_step (by repeat (first | (with_reducible first | exact HB.out | apply below_alloc | apply pw_below_drewN | apply below_drew1) | exact HB.out)) hb); clear HO103; clear HO107; clear HB; have HO103 := n0_; have HO107 := n1_; have HB := n2_; clear n0_ n1_ n2_; (try clear hb); (try clear hb2); (try clear hk); (try clear hi)))
    go_ret
    exact ⟨by first | rfl | (simp [errW_none, errW_some] <;> rfl) | (simp [*, errW_none, errW_some] <;> rfl) | exact ret_ie _ | (simp [*, errW_none, errW_some, bne]; done), by repeat (first | (with_reducible first | exact HB.out | apply below_alloc | apply pw_below_drewN | apply below_drew1) | exact HB.out)⟩

end Go.Proofs.Ytmnkdagfgfcnjaa.R
