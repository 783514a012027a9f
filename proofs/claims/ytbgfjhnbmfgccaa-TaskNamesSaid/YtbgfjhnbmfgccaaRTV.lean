/- What the chapter's examples come to, value by value. -/
import Derived.Test.YtbgfjhnbmfgccaaRx2
import Derived.Test.YtbgfjhnbmfgccaaRx8
import Derived.Test.YtbgfjhnbmfgccaaRTK
namespace Go.Proofs.Ytbgfjhnbmfgccaa.R
open Go.RowKit Go.Proofs.YtbgfjhnbmfgccaaW.PrintWords Go.Proofs.Ytbgfjhnbmfgccaa.Plain
set_option linter.unusedVariables false
theorem vNode {r : List Int × Int × Int} (h : millhandlaw24_node.f = some r) : r = ([], 3, 5) := by
  unfold millhandlaw24_node.f at h
  exact (Option.some.inj h).symm
theorem vDone {k : Nat} {l : List Int} {nt nw s tr un tk rk a : Int} {r : TT} (hn : (l, nt, nw) = (([], 3, 5) : List Int × Int × Int)) (h : task_Done.f k l nt nw s tr un tk rk a = some r) : r = doneS 3 5 s tr un tk rk a := by
  simp only [Prod.mk.injEq] at hn
  obtain ⟨rfl, rfl, rfl⟩ := hn
  exact uniq (task_Done.mono [] 3 5 s tr un tk rk a) (ev_at 2 fun k => done_eq k [] 3 5 s tr un tk rk a) h
theorem vBeat {k : Nat} {l : List Int} {nt nw s tr un tk rk a b : Int} {r : TT} (hn : (l, nt, nw) = (([], 3, 5) : List Int × Int × Int)) (h : task_Beat.f k l nt nw s tr un tk rk a b = some r) : r = beatS 3 5 s tr un tk rk a b := by
  simp only [Prod.mk.injEq] at hn
  obtain ⟨rfl, rfl, rfl⟩ := hn
  exact uniq (task_Beat.mono [] 3 5 s tr un tk rk a b) (ev_at 2 fun k => beat_eq k [] 3 5 s tr un tk rk a b) h
theorem vWake {k : Nat} {l : List Int} {nt nw s tr un tk rk a b : Int} {r : TT} (hn : (l, nt, nw) = (([], 3, 5) : List Int × Int × Int)) (h : task_Wake.f k l nt nw s tr un tk rk a b = some r) : r = wakeS 3 5 s tr un tk rk a b := by
  simp only [Prod.mk.injEq] at hn
  obtain ⟨rfl, rfl, rfl⟩ := hn
  exact uniq (task_Wake.mono [] 3 5 s tr un tk rk a b) (ev_at 2 fun k => wake_eq k [] 3 5 s tr un tk rk a b) h
theorem vLapse {k : Nat} {l : List Int} {nt nw s tr un tk rk b : Int} {r : TT} (hn : (l, nt, nw) = (([], 3, 5) : List Int × Int × Int)) (h : task_Lapse.f k l nt nw s tr un tk rk b = some r) : r = lapseS 3 5 s tr un tk rk b := by
  simp only [Prod.mk.injEq] at hn
  obtain ⟨rfl, rfl, rfl⟩ := hn
  exact uniq (task_Lapse.mono [] 3 5 s tr un tk rk b) (lapse_ev [] 3 5 s tr un tk rk b) h
theorem vDrop {k : Nat} {l : List Int} {nt nw s tr un tk rk : Int} {r : TT} (hn : (l, nt, nw) = (([], 3, 5) : List Int × Int × Int)) (h : task_Drop.f k l nt nw s tr un tk rk = some r) : r = dropS 3 5 s tr un tk rk := by
  simp only [Prod.mk.injEq] at hn
  obtain ⟨rfl, rfl, rfl⟩ := hn
  exact uniq (task_Drop.mono [] 3 5 s tr un tk rk) (ev_at 2 fun k => drop_eq k [] 3 5 s tr un tk rk) h
theorem vPause {k : Nat} {l : List Int} {nt nw a : Int} {r : Int × Int} (hn : (l, nt, nw) = (([], 3, 5) : List Int × Int × Int)) (h : task_Pause.f k l nt nw a = some r) : r = pauseS 3 5 a := by
  simp only [Prod.mk.injEq] at hn
  obtain ⟨rfl, rfl, rfl⟩ := hn
  exact uniq (task_Pause.mono [] 3 5 a) (Pause_evS [] 3 5 a) h
theorem p1_of {x y c : Int} {p : Int × Int} (h : (x, y) = p) (hc : p.1 = c) : x = c := by subst h; exact hc
theorem p2_of {x y c : Int} {p : Int × Int} (h : (x, y) = p) (hc : p.2 = c) : y = c := by subst h; exact hc
theorem c1_of {a1 a2 a3 a4 a5 a6 c : Int} {p : TT} (h : ((a1, a2, a3, a4, a5, a6) : TT) = p) (hc : p.1 = c) : a1 = c := by subst h; exact hc
theorem c3_of {a1 a2 a3 a4 a5 a6 c : Int} {p : TT} (h : ((a1, a2, a3, a4, a5, a6) : TT) = p) (hc : p.2.2.1 = c) : a3 = c := by subst h; exact hc
theorem c6_of {a1 a2 a3 a4 a5 a6 c : Int} {p : TT} (h : ((a1, a2, a3, a4, a5, a6) : TT) = p) (hc : p.2.2.2.2.2 = c) : a6 = c := by subst h; exact hc
theorem c5s_of {a1 a2 a3 a4 a5 a6 c1 c2 c3 c4 c5 : Int} {p : TT} (h : ((a1, a2, a3, a4, a5, a6) : TT) = p) (hc : (p.1 == c1 && (p.2.1 == c2 && (p.2.2.1 == c3 && (p.2.2.2.1 == c4 && (p.2.2.2.2.1 == c5))))) = true) : (a1 == c1 && (a2 == c2 && (a3 == c3 && (a4 == c4 && (a5 == c5))))) = true := by subst h; exact hc
end Go.Proofs.Ytbgfjhnbmfgccaa.R
