/- A row of rows that may stand in some blocks alone stands in no other. -/
import Derived.Test.YtdlghckcbbjipaaCo
namespace Go.Proofs.Ytdlghckcbbjipaa.Aw
open Go.RowKit Go.Proofs.YtdlghckcbbjipaaW.PrintWords Go.Proofs.YtdlghckcbbjipaaW.PrintLast Go.Proofs.YtdlghckcbbjipaaW.PrintMore
theorem V_away1 {α : Type} {d : Kd α} {e t base n c g : Nat} {W : World} {ok : Nat → Prop} {ad : Addr} {xs : List (List α)} (h : Kd.V (Kd.slice e d) t W base ok (.slice (some ad) n c) xs) (hn : 0 < n) (hok : ∀ k, ok k → k ≠ g) : ad.block ≠ g := by
  intro eg
  obtain ⟨cs, _, hK, hc⟩ := Kd.V_get h [] 0 (by omega) (by omega)
  obtain ⟨A, q, rfl, _⟩ := Kd.FK_slice_open hK
  have h0 := hc 0 _ rfl
  have h2 := Kd.V_far (p := ad.add (Int.toNat 0 * (Kd.slice e d).sz + 0)) h (fun k hk => by rw [show (ad.add (Int.toNat 0 * (Kd.slice e d).sz + 0)).block = ad.block from rfl, eg]; exact hok k hk) (.int .i64 0)
  obtain ⟨cs2, _, hK2, hc2⟩ := Kd.V_get h2 [] 0 (by omega) (by omega)
  obtain ⟨A2, q2, rfl, _⟩ := Kd.FK_slice_open hK2
  have h3 := hc2 0 _ rfl
  rw [World.cell?_setCell_same W _ _ h0] at h3
  cases h3
end Go.Proofs.Ytdlghckcbbjipaa.Aw
