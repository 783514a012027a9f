/- Contracts of Go functions and what they come to, over the translation of this seat: made by a program of this session (print2.py). -/
import Derived.Test.YtbgfjhnbmfgccaaSh
import Derived.Test.YtbgfjhnbmfgccaaRTK
import Derived.Test.YtbgfjhnbmfgccaaRx0
import Derived.Test.YtbgfjhnbmfgccaaRx1
import Derived.Test.YtbgfjhnbmfgccaaRx4
import Derived.Test.YtbgfjhnbmfgccaaRx5
import Derived.Test.YtbgfjhnbmfgccaaRx7
import Derived.Test.YtbgfjhnbmfgccaaRx9
import Derived.Test.YtbgfjhnbmfgccaaRx10
import Derived.Test.YtbgfjhnbmfgccaaRx11
import Derived.Test.YtbgfjhnbmfgccaaRx14
import Derived.Test.YtbgfjhnbmfgccaaRx18
import Derived.Test.YtbgfjhnbmfgccaaRx19
import Derived.Test.YtbgfjhnbmfgccaaRx21
import Derived.Test.YtbgfjhnbmfgccaaRx22
import Derived.Test.YtbgfjhnbmfgccaaRx23
import Derived.Test.YtbgfjhnbmfgccaaRx24
import Derived.Test.YtbgfjhnbmfgccaaRx25
namespace Go.Proofs.Ytbgfjhnbmfgccaa.R
open Go.RowKit Go.Proofs.Ytbgfjhnbmfgccaa.Sh Go.Proofs.Ytbgfjhnbmfgccaa.Co Go.Proofs.Ytbgfjhnbmfgccaa.Ret Go.Proofs.Ytbgfjhnbmfgccaa.Plain Go.Proofs.YtbgfjhnbmfgccaaW.PrintWords Go.Proofs.YtbgfjhnbmfgccaaW.PrintLast Go.Proofs.YtbgfjhnbmfgccaaW.PrintMore
attribute [local go_sem] max2_int min2_int max_two min_two max_three min_three max_four min_four   -- for this text's walks alone
set_option linter.unusedVariables false
set_option linter.unusedSimpArgs false

attribute [local go_sem high] eqA31
/-! ### millhandlaw24_TaskGoes: function 6 -/
mutual
def millhandlaw24_TaskGoes.j0 : Nat → Int → Int → Int → Int → Int → Int → Int → Int → Int → Int → Int → Bool → List Int → Int → Int → Int → Int → Int → Int → Int → Int → Int → Int → Int → Int → Int → Int → Int → Int → Int → Int → Int → Int → Int → Int → Int → Int → Int → Int → Int → Int → Int → Int → Int → Int → Int → Int → Int → Int → Int → Option (Bool)
 | 0, _, _, _, _, _, _, _, _, _, _, _, _, _, _, _, _, _, _, _, _, _, _, _, _, _, _, _, _, _, _, _, _, _, _, _, _, _, _, _, _, _, _, _, _, _, _, _, _, _, _ => none
 | k + 1, x3, x30, x32, x34, x36, x38, x40, x41, x42, x43, x44, x45, x513000, x513001, x513002, x514000, x514001, x514002, x514003, x514004, x591000, x591001, x591002, x591003, x591004, x598000, x598001, x598002, x598003, x598004, x605000, x605001, x605002, x605003, x605004, x612000, x612001, x612002, x612003, x612004, x619000, x619001, x619002, x619003, x619004, x626000, x626001, x626002, x626003, x626004 => if (x591000 == x598000 && (x591001 == x598001 && (x591002 == x598002 && (x591003 == x598003 && (x591004 == x598004))))) = true then (if x30 = x32 then (if (x605000 == x612000 && (x605001 == x612001 && (x605002 == x612002 && (x605003 == x612003 && (x605004 == x612004))))) = true then (if x34 = x36 then (if (x619000 == x626000 && (x619001 == x626001 && (x619002 == x626002 && (x619003 == x626003 && (x619004 == x626004))))) = true then (if x38 = x40 then (if x41 = x43 then (millhandlaw24_TaskGoes.j1 k x3 x45 (x42 == x44) x513000 x513001 x513002 x514000 x514001 x514002 x514003 x514004) else (millhandlaw24_TaskGoes.j1 k x3 x45 false x513000 x513001 x513002 x514000 x514001 x514002 x514003 x514004)) else (millhandlaw24_TaskGoes.j1 k x3 x45 false x513000 x513001 x513002 x514000 x514001 x514002 x514003 x514004)) else (millhandlaw24_TaskGoes.j1 k x3 x45 false x513000 x513001 x513002 x514000 x514001 x514002 x514003 x514004)) else (millhandlaw24_TaskGoes.j1 k x3 x45 false x513000 x513001 x513002 x514000 x514001 x514002 x514003 x514004)) else (millhandlaw24_TaskGoes.j1 k x3 x45 false x513000 x513001 x513002 x514000 x514001 x514002 x514003 x514004)) else (millhandlaw24_TaskGoes.j1 k x3 x45 false x513000 x513001 x513002 x514000 x514001 x514002 x514003 x514004)) else (millhandlaw24_TaskGoes.j1 k x3 x45 false x513000 x513001 x513002 x514000 x514001 x514002 x514003 x514004)
def millhandlaw24_TaskGoes.j1 : Nat → Int → Bool → Bool → List Int → Int → Int → Int → Int → Int → Int → Int → Option (Bool)
 | 0, _, _, _, _, _, _, _, _, _, _, _ => none
 | k + 1, x3, x45, x46, x513000, x513001, x513002, x514000, x514001, x514002, x514003, x514004 => if x45 = true then (if x46 = true then ((task_Check.f k x513000 x513001 x513002 x514000 x514001 x514002 x514003 x514004).bind fun t630 => ((millhandref24_Check.f k x513000 x513001 x513002 x514000 x514001 x514002 x514003 x514004).bind fun t631 => (if t630 = t631 then ((task_Due.f x514000 x514001 x514002 x514003 x514004 x3).bind fun t632 => ((millhandref24_Due.f x514000 x514001 x514002 x514003 x514004 x3).bind fun t633 => (some (t632 == t633)))) else (some false)))) else (some false)) else (some false)
end
def millhandlaw24_TaskGoes.f (k : Nat) (l0_0 : List Int) (a0_1 : Int) (a0_2 : Int) (a1_0 : Int) (a1_1 : Int) (a1_2 : Int) (a1_3 : Int) (a1_4 : Int) (a2 : Int) (a3 : Int) : Option (Bool) := if (l0_0.length : Int) > 1000 then (some true) else ((task_Open.f k l0_0 a0_1 a0_2 a1_0 a1_1 a1_2 a1_3 a1_4 a2).bind fun bt514 => ((millhandref24_Open.f k l0_0 a0_1 a0_2 a1_0 a1_1 a1_2 a1_3 a1_4 a2).bind fun bt521 => ((task_Lease.f k l0_0 a0_1 a0_2 a1_0 a1_1 a1_2 a1_3 a1_4 a2 a3).bind fun bt528 => ((millhandref24_Lease.f k l0_0 a0_1 a0_2 a1_0 a1_1 a1_2 a1_3 a1_4 a2 a3).bind fun bt535 => ((task_Done.f k l0_0 a0_1 a0_2 a1_0 a1_1 a1_2 a1_3 a1_4 a2).bind fun bt542 => ((millhandref24_Done.f k l0_0 a0_1 a0_2 a1_0 a1_1 a1_2 a1_3 a1_4 a2).bind fun bt549 => ((task_Fail.f k l0_0 a0_1 a0_2 a1_0 a1_1 a1_2 a1_3 a1_4 a2 a3).bind fun bt556 => ((millhandref24_Fail.f k l0_0 a0_1 a0_2 a1_0 a1_1 a1_2 a1_3 a1_4 a2 a3).bind fun bt563 => ((task_Beat.f k l0_0 a0_1 a0_2 a1_0 a1_1 a1_2 a1_3 a1_4 a2 a3).bind fun bt570 => ((millhandref24_Beat.f k l0_0 a0_1 a0_2 a1_0 a1_1 a1_2 a1_3 a1_4 a2 a3).bind fun bt577 => ((task_Wake.f k l0_0 a0_1 a0_2 a1_0 a1_1 a1_2 a1_3 a1_4 a2 a3).bind fun bt584 => ((millhandref24_Wake.f k l0_0 a0_1 a0_2 a1_0 a1_1 a1_2 a1_3 a1_4 a2 a3).bind fun bt591 => ((task_Lapse.f k l0_0 a0_1 a0_2 a1_0 a1_1 a1_2 a1_3 a1_4 a3).bind fun bt598 => ((millhandref24_Lapse.f k l0_0 a0_1 a0_2 a1_0 a1_1 a1_2 a1_3 a1_4 a3).bind fun bt605 => ((task_Drop.f k l0_0 a0_1 a0_2 a1_0 a1_1 a1_2 a1_3 a1_4).bind fun bt612 => ((millhandref24_Drop.f k l0_0 a0_1 a0_2 a1_0 a1_1 a1_2 a1_3 a1_4).bind fun bt619 => ((task_Pause.f k l0_0 a0_1 a0_2 a2).bind fun bt626 => ((millhandref24_Pause.f k l0_0 a0_1 a0_2 a2).bind fun bt628 => (if (bt514.1 == bt521.1 && (bt514.2.1 == bt521.2.1 && (bt514.2.2.1 == bt521.2.2.1 && (bt514.2.2.2.1 == bt521.2.2.2.1 && (bt514.2.2.2.2.1 == bt521.2.2.2.2.1))))) = true then (if bt514.2.2.2.2.2 = bt521.2.2.2.2.2 then (if (bt528.1 == bt535.1 && (bt528.2.1 == bt535.2.1 && (bt528.2.2.1 == bt535.2.2.1 && (bt528.2.2.2.1 == bt535.2.2.2.1 && (bt528.2.2.2.2.1 == bt535.2.2.2.2.1))))) = true then (if bt528.2.2.2.2.2 = bt535.2.2.2.2.2 then (if (bt542.1 == bt549.1 && (bt542.2.1 == bt549.2.1 && (bt542.2.2.1 == bt549.2.2.1 && (bt542.2.2.2.1 == bt549.2.2.2.1 && (bt542.2.2.2.2.1 == bt549.2.2.2.2.1))))) = true then (if bt542.2.2.2.2.2 = bt549.2.2.2.2.2 then (if (bt556.1 == bt563.1 && (bt556.2.1 == bt563.2.1 && (bt556.2.2.1 == bt563.2.2.1 && (bt556.2.2.2.1 == bt563.2.2.2.1 && (bt556.2.2.2.2.1 == bt563.2.2.2.2.1))))) = true then (if bt556.2.2.2.2.2 = bt563.2.2.2.2.2 then (if (bt570.1 == bt577.1 && (bt570.2.1 == bt577.2.1 && (bt570.2.2.1 == bt577.2.2.1 && (bt570.2.2.2.1 == bt577.2.2.2.1 && (bt570.2.2.2.2.1 == bt577.2.2.2.2.1))))) = true then (millhandlaw24_TaskGoes.j0 k a3 bt584.2.2.2.2.2 bt591.2.2.2.2.2 bt598.2.2.2.2.2 bt605.2.2.2.2.2 bt612.2.2.2.2.2 bt619.2.2.2.2.2 bt626.1 bt626.2 bt628.1 bt628.2 (bt570.2.2.2.2.2 == bt577.2.2.2.2.2) l0_0 a0_1 a0_2 a1_0 a1_1 a1_2 a1_3 a1_4 bt584.1 bt584.2.1 bt584.2.2.1 bt584.2.2.2.1 bt584.2.2.2.2.1 bt591.1 bt591.2.1 bt591.2.2.1 bt591.2.2.2.1 bt591.2.2.2.2.1 bt598.1 bt598.2.1 bt598.2.2.1 bt598.2.2.2.1 bt598.2.2.2.2.1 bt605.1 bt605.2.1 bt605.2.2.1 bt605.2.2.2.1 bt605.2.2.2.2.1 bt612.1 bt612.2.1 bt612.2.2.1 bt612.2.2.2.1 bt612.2.2.2.2.1 bt619.1 bt619.2.1 bt619.2.2.1 bt619.2.2.2.1 bt619.2.2.2.2.1) else (millhandlaw24_TaskGoes.j0 k a3 bt584.2.2.2.2.2 bt591.2.2.2.2.2 bt598.2.2.2.2.2 bt605.2.2.2.2.2 bt612.2.2.2.2.2 bt619.2.2.2.2.2 bt626.1 bt626.2 bt628.1 bt628.2 false l0_0 a0_1 a0_2 a1_0 a1_1 a1_2 a1_3 a1_4 bt584.1 bt584.2.1 bt584.2.2.1 bt584.2.2.2.1 bt584.2.2.2.2.1 bt591.1 bt591.2.1 bt591.2.2.1 bt591.2.2.2.1 bt591.2.2.2.2.1 bt598.1 bt598.2.1 bt598.2.2.1 bt598.2.2.2.1 bt598.2.2.2.2.1 bt605.1 bt605.2.1 bt605.2.2.1 bt605.2.2.2.1 bt605.2.2.2.2.1 bt612.1 bt612.2.1 bt612.2.2.1 bt612.2.2.2.1 bt612.2.2.2.2.1 bt619.1 bt619.2.1 bt619.2.2.1 bt619.2.2.2.1 bt619.2.2.2.2.1)) else (millhandlaw24_TaskGoes.j0 k a3 bt584.2.2.2.2.2 bt591.2.2.2.2.2 bt598.2.2.2.2.2 bt605.2.2.2.2.2 bt612.2.2.2.2.2 bt619.2.2.2.2.2 bt626.1 bt626.2 bt628.1 bt628.2 false l0_0 a0_1 a0_2 a1_0 a1_1 a1_2 a1_3 a1_4 bt584.1 bt584.2.1 bt584.2.2.1 bt584.2.2.2.1 bt584.2.2.2.2.1 bt591.1 bt591.2.1 bt591.2.2.1 bt591.2.2.2.1 bt591.2.2.2.2.1 bt598.1 bt598.2.1 bt598.2.2.1 bt598.2.2.2.1 bt598.2.2.2.2.1 bt605.1 bt605.2.1 bt605.2.2.1 bt605.2.2.2.1 bt605.2.2.2.2.1 bt612.1 bt612.2.1 bt612.2.2.1 bt612.2.2.2.1 bt612.2.2.2.2.1 bt619.1 bt619.2.1 bt619.2.2.1 bt619.2.2.2.1 bt619.2.2.2.2.1)) else (millhandlaw24_TaskGoes.j0 k a3 bt584.2.2.2.2.2 bt591.2.2.2.2.2 bt598.2.2.2.2.2 bt605.2.2.2.2.2 bt612.2.2.2.2.2 bt619.2.2.2.2.2 bt626.1 bt626.2 bt628.1 bt628.2 false l0_0 a0_1 a0_2 a1_0 a1_1 a1_2 a1_3 a1_4 bt584.1 bt584.2.1 bt584.2.2.1 bt584.2.2.2.1 bt584.2.2.2.2.1 bt591.1 bt591.2.1 bt591.2.2.1 bt591.2.2.2.1 bt591.2.2.2.2.1 bt598.1 bt598.2.1 bt598.2.2.1 bt598.2.2.2.1 bt598.2.2.2.2.1 bt605.1 bt605.2.1 bt605.2.2.1 bt605.2.2.2.1 bt605.2.2.2.2.1 bt612.1 bt612.2.1 bt612.2.2.1 bt612.2.2.2.1 bt612.2.2.2.2.1 bt619.1 bt619.2.1 bt619.2.2.1 bt619.2.2.2.1 bt619.2.2.2.2.1)) else (millhandlaw24_TaskGoes.j0 k a3 bt584.2.2.2.2.2 bt591.2.2.2.2.2 bt598.2.2.2.2.2 bt605.2.2.2.2.2 bt612.2.2.2.2.2 bt619.2.2.2.2.2 bt626.1 bt626.2 bt628.1 bt628.2 false l0_0 a0_1 a0_2 a1_0 a1_1 a1_2 a1_3 a1_4 bt584.1 bt584.2.1 bt584.2.2.1 bt584.2.2.2.1 bt584.2.2.2.2.1 bt591.1 bt591.2.1 bt591.2.2.1 bt591.2.2.2.1 bt591.2.2.2.2.1 bt598.1 bt598.2.1 bt598.2.2.1 bt598.2.2.2.1 bt598.2.2.2.2.1 bt605.1 bt605.2.1 bt605.2.2.1 bt605.2.2.2.1 bt605.2.2.2.2.1 bt612.1 bt612.2.1 bt612.2.2.1 bt612.2.2.2.1 bt612.2.2.2.2.1 bt619.1 bt619.2.1 bt619.2.2.1 bt619.2.2.2.1 bt619.2.2.2.2.1)) else (millhandlaw24_TaskGoes.j0 k a3 bt584.2.2.2.2.2 bt591.2.2.2.2.2 bt598.2.2.2.2.2 bt605.2.2.2.2.2 bt612.2.2.2.2.2 bt619.2.2.2.2.2 bt626.1 bt626.2 bt628.1 bt628.2 false l0_0 a0_1 a0_2 a1_0 a1_1 a1_2 a1_3 a1_4 bt584.1 bt584.2.1 bt584.2.2.1 bt584.2.2.2.1 bt584.2.2.2.2.1 bt591.1 bt591.2.1 bt591.2.2.1 bt591.2.2.2.1 bt591.2.2.2.2.1 bt598.1 bt598.2.1 bt598.2.2.1 bt598.2.2.2.1 bt598.2.2.2.2.1 bt605.1 bt605.2.1 bt605.2.2.1 bt605.2.2.2.1 bt605.2.2.2.2.1 bt612.1 bt612.2.1 bt612.2.2.1 bt612.2.2.2.1 bt612.2.2.2.2.1 bt619.1 bt619.2.1 bt619.2.2.1 bt619.2.2.2.1 bt619.2.2.2.2.1)) else (millhandlaw24_TaskGoes.j0 k a3 bt584.2.2.2.2.2 bt591.2.2.2.2.2 bt598.2.2.2.2.2 bt605.2.2.2.2.2 bt612.2.2.2.2.2 bt619.2.2.2.2.2 bt626.1 bt626.2 bt628.1 bt628.2 false l0_0 a0_1 a0_2 a1_0 a1_1 a1_2 a1_3 a1_4 bt584.1 bt584.2.1 bt584.2.2.1 bt584.2.2.2.1 bt584.2.2.2.2.1 bt591.1 bt591.2.1 bt591.2.2.1 bt591.2.2.2.1 bt591.2.2.2.2.1 bt598.1 bt598.2.1 bt598.2.2.1 bt598.2.2.2.1 bt598.2.2.2.2.1 bt605.1 bt605.2.1 bt605.2.2.1 bt605.2.2.2.1 bt605.2.2.2.2.1 bt612.1 bt612.2.1 bt612.2.2.1 bt612.2.2.2.1 bt612.2.2.2.2.1 bt619.1 bt619.2.1 bt619.2.2.1 bt619.2.2.2.1 bt619.2.2.2.2.1)) else (millhandlaw24_TaskGoes.j0 k a3 bt584.2.2.2.2.2 bt591.2.2.2.2.2 bt598.2.2.2.2.2 bt605.2.2.2.2.2 bt612.2.2.2.2.2 bt619.2.2.2.2.2 bt626.1 bt626.2 bt628.1 bt628.2 false l0_0 a0_1 a0_2 a1_0 a1_1 a1_2 a1_3 a1_4 bt584.1 bt584.2.1 bt584.2.2.1 bt584.2.2.2.1 bt584.2.2.2.2.1 bt591.1 bt591.2.1 bt591.2.2.1 bt591.2.2.2.1 bt591.2.2.2.2.1 bt598.1 bt598.2.1 bt598.2.2.1 bt598.2.2.2.1 bt598.2.2.2.2.1 bt605.1 bt605.2.1 bt605.2.2.1 bt605.2.2.2.1 bt605.2.2.2.2.1 bt612.1 bt612.2.1 bt612.2.2.1 bt612.2.2.2.1 bt612.2.2.2.2.1 bt619.1 bt619.2.1 bt619.2.2.1 bt619.2.2.2.1 bt619.2.2.2.2.1)) else (millhandlaw24_TaskGoes.j0 k a3 bt584.2.2.2.2.2 bt591.2.2.2.2.2 bt598.2.2.2.2.2 bt605.2.2.2.2.2 bt612.2.2.2.2.2 bt619.2.2.2.2.2 bt626.1 bt626.2 bt628.1 bt628.2 false l0_0 a0_1 a0_2 a1_0 a1_1 a1_2 a1_3 a1_4 bt584.1 bt584.2.1 bt584.2.2.1 bt584.2.2.2.1 bt584.2.2.2.2.1 bt591.1 bt591.2.1 bt591.2.2.1 bt591.2.2.2.1 bt591.2.2.2.2.1 bt598.1 bt598.2.1 bt598.2.2.1 bt598.2.2.2.1 bt598.2.2.2.2.1 bt605.1 bt605.2.1 bt605.2.2.1 bt605.2.2.2.1 bt605.2.2.2.2.1 bt612.1 bt612.2.1 bt612.2.2.1 bt612.2.2.2.1 bt612.2.2.2.2.1 bt619.1 bt619.2.1 bt619.2.2.1 bt619.2.2.2.1 bt619.2.2.2.2.1)) else (millhandlaw24_TaskGoes.j0 k a3 bt584.2.2.2.2.2 bt591.2.2.2.2.2 bt598.2.2.2.2.2 bt605.2.2.2.2.2 bt612.2.2.2.2.2 bt619.2.2.2.2.2 bt626.1 bt626.2 bt628.1 bt628.2 false l0_0 a0_1 a0_2 a1_0 a1_1 a1_2 a1_3 a1_4 bt584.1 bt584.2.1 bt584.2.2.1 bt584.2.2.2.1 bt584.2.2.2.2.1 bt591.1 bt591.2.1 bt591.2.2.1 bt591.2.2.2.1 bt591.2.2.2.2.1 bt598.1 bt598.2.1 bt598.2.2.1 bt598.2.2.2.1 bt598.2.2.2.2.1 bt605.1 bt605.2.1 bt605.2.2.1 bt605.2.2.2.1 bt605.2.2.2.2.1 bt612.1 bt612.2.1 bt612.2.2.1 bt612.2.2.2.1 bt612.2.2.2.2.1 bt619.1 bt619.2.1 bt619.2.2.1 bt619.2.2.2.1 bt619.2.2.2.2.1))))))))))))))))))))
def millhandlaw24_TaskGoes.T23 : Bool × List (List Nat × List Nat) := (true, [([], []), ([0], [0]), ([1], [1]), ([1, 2], [1, 2]), ([3, 1], [3]), ([4], [4]), ([4], [4]), ([5, 6, 4, 4], [4, 5, 6]), ([4], [4]), ([4], [4]), ([8, 9, 7, 4], [4, 8, 9]), ([7, 10, 4], [4, 7, 10]), ([4, 11], [4, 11]), ([12, 10], [12]), ([13], [13]), ([13], [13]), ([14, 15, 13, 13], [13, 14, 15]), ([13], [13]), ([13], [13]), ([17, 18, 16, 13], [13, 17, 18]), ([16, 19, 13], [13, 16, 19]), ([13, 20], [13, 20]), ([21, 19, 0, 1, 2, 3, 4, 5, 6, 7, 8, 9, 10, 11, 12, 13, 14, 15, 16, 17, 18, 19, 20, 21], [21])])
def millhandlaw24_TaskGoes.B23 : List Nat := [0, 1, 3, 7, 15, 31, 31, 127, 31, 31, 1023, 2047, 4095, 8191, 16383, 16383, 65535, 16383, 16383, 524287, 1048575, 2097151, 4194303]
theorem millhandlaw24_TaskGoes.tab23 : rtab .any (opsOf Try.f6 23) = millhandlaw24_TaskGoes.T23 := by kernel_rfl
theorem millhandlaw24_TaskGoes.bits23 : waitsOk millhandlaw24_TaskGoes.T23.2 millhandlaw24_TaskGoes.B23 = true := by kernel_rfl
set_option maxHeartbeats 8000000 in
set_option maxRecDepth 100000 in
theorem millhandlaw24_TaskGoes.calls (k : Nat) (A0_0 : Option Addr) (c0_0 : Nat) (l0_0 : List Int) (a0_1 : Int) (a0_2 : Int) (a1_0 : Int) (a1_1 : Int) (a1_2 : Int) (a1_3 : Int) (a1_4 : Int) (a2 : Int) (a3 : Int) (r : Bool) (w : World) (hr0_0 : Kd.C (Kd.int .i64) w A0_0 l0_0.length l0_0) (hc0_0 : l0_0.length ≤ c0_0) (h : millhandlaw24_TaskGoes.f k l0_0 a0_1 a0_2 a1_0 a1_1 a1_2 a1_3 a1_4 a2 a3 = some r) (hs0 : 0 ≤ a1_0) :
  Calls Try.prog 6 #[.agg #[.slice A0_0 l0_0.length c0_0, .int .i64 a0_1, .int .i64 a0_2], .agg #[.int .u8 a1_0, .int .i64 a1_1, .int .i64 a1_2, .int .i64 a1_3, .int .i64 a1_4], .int .i64 a2, .int .i64 a3] w fun e w' => e = .returned (.bool r) ∧ Below w.heap.size w w' := by
 have hu24 := Try.underlying24
 have hu31 := Try.underlying31
 have HR0_0 := Aside0.mk hr0_0
 have HC0_0 := Aside0.mk hc0_0
 clear hr0_0 hc0_0
 have HB := Aside0.mk (Below.refl w.heap.size w)
 have H : (if (l0_0.length : Int) > 1000 then (some true) else ((task_Open.f k l0_0 a0_1 a0_2 a1_0 a1_1 a1_2 a1_3 a1_4 a2).bind fun bt514 => ((millhandref24_Open.f k l0_0 a0_1 a0_2 a1_0 a1_1 a1_2 a1_3 a1_4 a2).bind fun bt521 => ((task_Lease.f k l0_0 a0_1 a0_2 a1_0 a1_1 a1_2 a1_3 a1_4 a2 a3).bind fun bt528 => ((millhandref24_Lease.f k l0_0 a0_1 a0_2 a1_0 a1_1 a1_2 a1_3 a1_4 a2 a3).bind fun bt535 => ((task_Done.f k l0_0 a0_1 a0_2 a1_0 a1_1 a1_2 a1_3 a1_4 a2).bind fun bt542 => ((millhandref24_Done.f k l0_0 a0_1 a0_2 a1_0 a1_1 a1_2 a1_3 a1_4 a2).bind fun bt549 => ((task_Fail.f k l0_0 a0_1 a0_2 a1_0 a1_1 a1_2 a1_3 a1_4 a2 a3).bind fun bt556 => ((millhandref24_Fail.f k l0_0 a0_1 a0_2 a1_0 a1_1 a1_2 a1_3 a1_4 a2 a3).bind fun bt563 => ((task_Beat.f k l0_0 a0_1 a0_2 a1_0 a1_1 a1_2 a1_3 a1_4 a2 a3).bind fun bt570 => ((millhandref24_Beat.f k l0_0 a0_1 a0_2 a1_0 a1_1 a1_2 a1_3 a1_4 a2 a3).bind fun bt577 => ((task_Wake.f k l0_0 a0_1 a0_2 a1_0 a1_1 a1_2 a1_3 a1_4 a2 a3).bind fun bt584 => ((millhandref24_Wake.f k l0_0 a0_1 a0_2 a1_0 a1_1 a1_2 a1_3 a1_4 a2 a3).bind fun bt591 => ((task_Lapse.f k l0_0 a0_1 a0_2 a1_0 a1_1 a1_2 a1_3 a1_4 a3).bind fun bt598 => ((millhandref24_Lapse.f k l0_0 a0_1 a0_2 a1_0 a1_1 a1_2 a1_3 a1_4 a3).bind fun bt605 => ((task_Drop.f k l0_0 a0_1 a0_2 a1_0 a1_1 a1_2 a1_3 a1_4).bind fun bt612 => ((millhandref24_Drop.f k l0_0 a0_1 a0_2 a1_0 a1_1 a1_2 a1_3 a1_4).bind fun bt619 => ((task_Pause.f k l0_0 a0_1 a0_2 a2).bind fun bt626 => ((millhandref24_Pause.f k l0_0 a0_1 a0_2 a2).bind fun bt628 => (if (bt514.1 == bt521.1 && (bt514.2.1 == bt521.2.1 && (bt514.2.2.1 == bt521.2.2.1 && (bt514.2.2.2.1 == bt521.2.2.2.1 && (bt514.2.2.2.2.1 == bt521.2.2.2.2.1))))) = true then (if bt514.2.2.2.2.2 = bt521.2.2.2.2.2 then (if (bt528.1 == bt535.1 && (bt528.2.1 == bt535.2.1 && (bt528.2.2.1 == bt535.2.2.1 && (bt528.2.2.2.1 == bt535.2.2.2.1 && (bt528.2.2.2.2.1 == bt535.2.2.2.2.1))))) = true then (if bt528.2.2.2.2.2 = bt535.2.2.2.2.2 then (if (bt542.1 == bt549.1 && (bt542.2.1 == bt549.2.1 && (bt542.2.2.1 == bt549.2.2.1 && (bt542.2.2.2.1 == bt549.2.2.2.1 && (bt542.2.2.2.2.1 == bt549.2.2.2.2.1))))) = true then (if bt542.2.2.2.2.2 = bt549.2.2.2.2.2 then (if (bt556.1 == bt563.1 && (bt556.2.1 == bt563.2.1 && (bt556.2.2.1 == bt563.2.2.1 && (bt556.2.2.2.1 == bt563.2.2.2.1 && (bt556.2.2.2.2.1 == bt563.2.2.2.2.1))))) = true then (if bt556.2.2.2.2.2 = bt563.2.2.2.2.2 then (if (bt570.1 == bt577.1 && (bt570.2.1 == bt577.2.1 && (bt570.2.2.1 == bt577.2.2.1 && (bt570.2.2.2.1 == bt577.2.2.2.1 && (bt570.2.2.2.2.1 == bt577.2.2.2.2.1))))) = true then (millhandlaw24_TaskGoes.j0 k a3 bt584.2.2.2.2.2 bt591.2.2.2.2.2 bt598.2.2.2.2.2 bt605.2.2.2.2.2 bt612.2.2.2.2.2 bt619.2.2.2.2.2 bt626.1 bt626.2 bt628.1 bt628.2 (bt570.2.2.2.2.2 == bt577.2.2.2.2.2) l0_0 a0_1 a0_2 a1_0 a1_1 a1_2 a1_3 a1_4 bt584.1 bt584.2.1 bt584.2.2.1 bt584.2.2.2.1 bt584.2.2.2.2.1 bt591.1 bt591.2.1 bt591.2.2.1 bt591.2.2.2.1 bt591.2.2.2.2.1 bt598.1 bt598.2.1 bt598.2.2.1 bt598.2.2.2.1 bt598.2.2.2.2.1 bt605.1 bt605.2.1 bt605.2.2.1 bt605.2.2.2.1 bt605.2.2.2.2.1 bt612.1 bt612.2.1 bt612.2.2.1 bt612.2.2.2.1 bt612.2.2.2.2.1 bt619.1 bt619.2.1 bt619.2.2.1 bt619.2.2.2.1 bt619.2.2.2.2.1) else (millhandlaw24_TaskGoes.j0 k a3 bt584.2.2.2.2.2 bt591.2.2.2.2.2 bt598.2.2.2.2.2 bt605.2.2.2.2.2 bt612.2.2.2.2.2 bt619.2.2.2.2.2 bt626.1 bt626.2 bt628.1 bt628.2 false l0_0 a0_1 a0_2 a1_0 a1_1 a1_2 a1_3 a1_4 bt584.1 bt584.2.1 bt584.2.2.1 bt584.2.2.2.1 bt584.2.2.2.2.1 bt591.1 bt591.2.1 bt591.2.2.1 bt591.2.2.2.1 bt591.2.2.2.2.1 bt598.1 bt598.2.1 bt598.2.2.1 bt598.2.2.2.1 bt598.2.2.2.2.1 bt605.1 bt605.2.1 bt605.2.2.1 bt605.2.2.2.1 bt605.2.2.2.2.1 bt612.1 bt612.2.1 bt612.2.2.1 bt612.2.2.2.1 bt612.2.2.2.2.1 bt619.1 bt619.2.1 bt619.2.2.1 bt619.2.2.2.1 bt619.2.2.2.2.1)) else (millhandlaw24_TaskGoes.j0 k a3 bt584.2.2.2.2.2 bt591.2.2.2.2.2 bt598.2.2.2.2.2 bt605.2.2.2.2.2 bt612.2.2.2.2.2 bt619.2.2.2.2.2 bt626.1 bt626.2 bt628.1 bt628.2 false l0_0 a0_1 a0_2 a1_0 a1_1 a1_2 a1_3 a1_4 bt584.1 bt584.2.1 bt584.2.2.1 bt584.2.2.2.1 bt584.2.2.2.2.1 bt591.1 bt591.2.1 bt591.2.2.1 bt591.2.2.2.1 bt591.2.2.2.2.1 bt598.1 bt598.2.1 bt598.2.2.1 bt598.2.2.2.1 bt598.2.2.2.2.1 bt605.1 bt605.2.1 bt605.2.2.1 bt605.2.2.2.1 bt605.2.2.2.2.1 bt612.1 bt612.2.1 bt612.2.2.1 bt612.2.2.2.1 bt612.2.2.2.2.1 bt619.1 bt619.2.1 bt619.2.2.1 bt619.2.2.2.1 bt619.2.2.2.2.1)) else (millhandlaw24_TaskGoes.j0 k a3 bt584.2.2.2.2.2 bt591.2.2.2.2.2 bt598.2.2.2.2.2 bt605.2.2.2.2.2 bt612.2.2.2.2.2 bt619.2.2.2.2.2 bt626.1 bt626.2 bt628.1 bt628.2 false l0_0 a0_1 a0_2 a1_0 a1_1 a1_2 a1_3 a1_4 bt584.1 bt584.2.1 bt584.2.2.1 bt584.2.2.2.1 bt584.2.2.2.2.1 bt591.1 bt591.2.1 bt591.2.2.1 bt591.2.2.2.1 bt591.2.2.2.2.1 bt598.1 bt598.2.1 bt598.2.2.1 bt598.2.2.2.1 bt598.2.2.2.2.1 bt605.1 bt605.2.1 bt605.2.2.1 bt605.2.2.2.1 bt605.2.2.2.2.1 bt612.1 bt612.2.1 bt612.2.2.1 bt612.2.2.2.1 bt612.2.2.2.2.1 bt619.1 bt619.2.1 bt619.2.2.1 bt619.2.2.2.1 bt619.2.2.2.2.1)) else (millhandlaw24_TaskGoes.j0 k a3 bt584.2.2.2.2.2 bt591.2.2.2.2.2 bt598.2.2.2.2.2 bt605.2.2.2.2.2 bt612.2.2.2.2.2 bt619.2.2.2.2.2 bt626.1 bt626.2 bt628.1 bt628.2 false l0_0 a0_1 a0_2 a1_0 a1_1 a1_2 a1_3 a1_4 bt584.1 bt584.2.1 bt584.2.2.1 bt584.2.2.2.1 bt584.2.2.2.2.1 bt591.1 bt591.2.1 bt591.2.2.1 bt591.2.2.2.1 bt591.2.2.2.2.1 bt598.1 bt598.2.1 bt598.2.2.1 bt598.2.2.2.1 bt598.2.2.2.2.1 bt605.1 bt605.2.1 bt605.2.2.1 bt605.2.2.2.1 bt605.2.2.2.2.1 bt612.1 bt612.2.1 bt612.2.2.1 bt612.2.2.2.1 bt612.2.2.2.2.1 bt619.1 bt619.2.1 bt619.2.2.1 bt619.2.2.2.1 bt619.2.2.2.2.1)) else (millhandlaw24_TaskGoes.j0 k a3 bt584.2.2.2.2.2 bt591.2.2.2.2.2 bt598.2.2.2.2.2 bt605.2.2.2.2.2 bt612.2.2.2.2.2 bt619.2.2.2.2.2 bt626.1 bt626.2 bt628.1 bt628.2 false l0_0 a0_1 a0_2 a1_0 a1_1 a1_2 a1_3 a1_4 bt584.1 bt584.2.1 bt584.2.2.1 bt584.2.2.2.1 bt584.2.2.2.2.1 bt591.1 bt591.2.1 bt591.2.2.1 bt591.2.2.2.1 bt591.2.2.2.2.1 bt598.1 bt598.2.1 bt598.2.2.1 bt598.2.2.2.1 bt598.2.2.2.2.1 bt605.1 bt605.2.1 bt605.2.2.1 bt605.2.2.2.1 bt605.2.2.2.2.1 bt612.1 bt612.2.1 bt612.2.2.1 bt612.2.2.2.1 bt612.2.2.2.2.1 bt619.1 bt619.2.1 bt619.2.2.1 bt619.2.2.2.1 bt619.2.2.2.2.1)) else (millhandlaw24_TaskGoes.j0 k a3 bt584.2.2.2.2.2 bt591.2.2.2.2.2 bt598.2.2.2.2.2 bt605.2.2.2.2.2 bt612.2.2.2.2.2 bt619.2.2.2.2.2 bt626.1 bt626.2 bt628.1 bt628.2 false l0_0 a0_1 a0_2 a1_0 a1_1 a1_2 a1_3 a1_4 bt584.1 bt584.2.1 bt584.2.2.1 bt584.2.2.2.1 bt584.2.2.2.2.1 bt591.1 bt591.2.1 bt591.2.2.1 bt591.2.2.2.1 bt591.2.2.2.2.1 bt598.1 bt598.2.1 bt598.2.2.1 bt598.2.2.2.1 bt598.2.2.2.2.1 bt605.1 bt605.2.1 bt605.2.2.1 bt605.2.2.2.1 bt605.2.2.2.2.1 bt612.1 bt612.2.1 bt612.2.2.1 bt612.2.2.2.1 bt612.2.2.2.2.1 bt619.1 bt619.2.1 bt619.2.2.1 bt619.2.2.2.1 bt619.2.2.2.2.1)) else (millhandlaw24_TaskGoes.j0 k a3 bt584.2.2.2.2.2 bt591.2.2.2.2.2 bt598.2.2.2.2.2 bt605.2.2.2.2.2 bt612.2.2.2.2.2 bt619.2.2.2.2.2 bt626.1 bt626.2 bt628.1 bt628.2 false l0_0 a0_1 a0_2 a1_0 a1_1 a1_2 a1_3 a1_4 bt584.1 bt584.2.1 bt584.2.2.1 bt584.2.2.2.1 bt584.2.2.2.2.1 bt591.1 bt591.2.1 bt591.2.2.1 bt591.2.2.2.1 bt591.2.2.2.2.1 bt598.1 bt598.2.1 bt598.2.2.1 bt598.2.2.2.1 bt598.2.2.2.2.1 bt605.1 bt605.2.1 bt605.2.2.1 bt605.2.2.2.1 bt605.2.2.2.2.1 bt612.1 bt612.2.1 bt612.2.2.1 bt612.2.2.2.1 bt612.2.2.2.2.1 bt619.1 bt619.2.1 bt619.2.2.1 bt619.2.2.2.1 bt619.2.2.2.2.1)) else (millhandlaw24_TaskGoes.j0 k a3 bt584.2.2.2.2.2 bt591.2.2.2.2.2 bt598.2.2.2.2.2 bt605.2.2.2.2.2 bt612.2.2.2.2.2 bt619.2.2.2.2.2 bt626.1 bt626.2 bt628.1 bt628.2 false l0_0 a0_1 a0_2 a1_0 a1_1 a1_2 a1_3 a1_4 bt584.1 bt584.2.1 bt584.2.2.1 bt584.2.2.2.1 bt584.2.2.2.2.1 bt591.1 bt591.2.1 bt591.2.2.1 bt591.2.2.2.1 bt591.2.2.2.2.1 bt598.1 bt598.2.1 bt598.2.2.1 bt598.2.2.2.1 bt598.2.2.2.2.1 bt605.1 bt605.2.1 bt605.2.2.1 bt605.2.2.2.1 bt605.2.2.2.2.1 bt612.1 bt612.2.1 bt612.2.2.1 bt612.2.2.2.1 bt612.2.2.2.2.1 bt619.1 bt619.2.1 bt619.2.2.1 bt619.2.2.2.1 bt619.2.2.2.2.1)) else (millhandlaw24_TaskGoes.j0 k a3 bt584.2.2.2.2.2 bt591.2.2.2.2.2 bt598.2.2.2.2.2 bt605.2.2.2.2.2 bt612.2.2.2.2.2 bt619.2.2.2.2.2 bt626.1 bt626.2 bt628.1 bt628.2 false l0_0 a0_1 a0_2 a1_0 a1_1 a1_2 a1_3 a1_4 bt584.1 bt584.2.1 bt584.2.2.1 bt584.2.2.2.1 bt584.2.2.2.2.1 bt591.1 bt591.2.1 bt591.2.2.1 bt591.2.2.2.1 bt591.2.2.2.2.1 bt598.1 bt598.2.1 bt598.2.2.1 bt598.2.2.2.1 bt598.2.2.2.2.1 bt605.1 bt605.2.1 bt605.2.2.1 bt605.2.2.2.1 bt605.2.2.2.2.1 bt612.1 bt612.2.1 bt612.2.2.1 bt612.2.2.2.1 bt612.2.2.2.2.1 bt619.1 bt619.2.1 bt619.2.2.1 bt619.2.2.2.1 bt619.2.2.2.2.1))))))))))))))))))))) = some r := h
 clear h
 by_cases c5 : (l0_0.length : Int) > 1000
 ·
  rw [if_pos c5] at H
  have c5b0 : decide (1000 < (l0_0.length : Int)) = true := decide_eq_true c5
  have c5b1 : decide (1000 < l0_0.length) = true := decide_eq_true (by omega)
  clear c5
  obtain rfl := Option.some.inj H
  go_enter Try.func6, Try.ntmps6
  go_wp2_with (first | ((with_reducible refine gate_dst (N := 4) rfl ?_); refine box_event ?hg (N := 4) ?hd (cs := #[.slice A0_0 l0_0.length c0_0, .int .i64 a0_1, .int .i64 a0_2]) (t := 24) ?hr ?_; (case hd => rfl); (case hg => rfl); (case hr => first | (go_simp; done) | (go_simp; rfl)); intro gb512 hg w6 hbox hb; have BK512 := Aside0.mk (hbox); have GW512 := bz_ (hB_ HB.out) hg; have GE512 := bz_ (hB_ HB.out) hg; replace HB := Aside0.mk (below_step (hB_ HB.out) hb); clear hb hbox hg) | ((with_reducible refine gate_dst (N := 5) rfl ?_); refine box_event ?hg (N := 5) ?hd (cs := #[.int .u8 a1_0, .int .i64 a1_1, .int .i64 a1_2, .int .i64 a1_3, .int .i64 a1_4]) (t := 31) ?hr ?_; (case hd => rfl); (case hg => rfl); (case hr => first | (go_simp; done) | (go_simp; rfl)); intro gb513 hg w7 hbox hb; have BK513 := Aside0.mk (hbox); have GW513 := bz_ (hB_ HB.out) hg; have GE513 := bz_ (hB_ HB.out) hg; replace HB := Aside0.mk (below_step (hB_ HB.out) hb); have NB512_513 := bn_ BK512 hg; have NB513_512 := bm_ BK512 hg; replace BK512 := bs_ BK512 hb; clear hb hbox hg; have hnb8 := NB512_513.out; have hnc8 := NB513_512.out; have hcz9_0 : w7.cell? ⟨gb512, 0, none⟩ = some (.slice A0_0 l0_0.length c0_0) := ck_ BK512 0; have hcz9_1 : w7.cell? ⟨gb512, 1, none⟩ = some (.int .i64 a0_1) := ck_ BK512 1; have hcz9_2 : w7.cell? ⟨gb512, 2, none⟩ = some (.int .i64 a0_2) := ck_ BK512 2; have hfz9_0 := blk_frozen BK512.out 0; have hfz9_1 := blk_frozen BK512.out 1; have hfz9_2 := blk_frozen BK512.out 2))
  go_ret
  exact ⟨by first | rfl | (simp [errW_none, errW_some] <;> rfl) | (simp [*, errW_none, errW_some] <;> rfl) | exact ret_ie _ | (simp [*, errW_none, errW_some, bne]; done), by repeat (first | (with_reducible first | exact HB.out | apply below_alloc | apply pw_below_drewN | apply below_drew1 | refine below_set ?_ GE512.out | refine below_set ?_ GE513.out) | exact HB.out)⟩
 ·
  rw [if_neg c5] at H
  have c5b0 : decide (1000 < (l0_0.length : Int)) = false := decide_eq_false c5
  have c5b1 : decide (1000 < l0_0.length) = false := decide_eq_false (by omega)
  clear c5
  replace H := Option.bind_eq_some_iff.mp H
  obtain ⟨⟨t514, t515, t516, t517, t518, t519⟩, A100, H⟩ := H
  try dsimp only at H
  have A10 := Aside0.mk A100
  clear A100
  replace H := Option.bind_eq_some_iff.mp H
  obtain ⟨⟨t521, t522, t523, t524, t525, t526⟩, A110, H⟩ := H
  try dsimp only at H
  have A11 := Aside0.mk A110
  clear A110
  replace H := Option.bind_eq_some_iff.mp H
  obtain ⟨⟨t528, t529, t530, t531, t532, t533⟩, A120, H⟩ := H
  try dsimp only at H
  have A12 := Aside0.mk A120
  clear A120
  replace H := Option.bind_eq_some_iff.mp H
  obtain ⟨⟨t535, t536, t537, t538, t539, t540⟩, A130, H⟩ := H
  try dsimp only at H
  have A13 := Aside0.mk A130
  clear A130
  replace H := Option.bind_eq_some_iff.mp H
  obtain ⟨⟨t542, t543, t544, t545, t546, t547⟩, A140, H⟩ := H
  try dsimp only at H
  have A14 := Aside0.mk A140
  clear A140
  replace H := Option.bind_eq_some_iff.mp H
  obtain ⟨⟨t549, t550, t551, t552, t553, t554⟩, A150, H⟩ := H
  try dsimp only at H
  have A15 := Aside0.mk A150
  clear A150
  replace H := Option.bind_eq_some_iff.mp H
  obtain ⟨⟨t556, t557, t558, t559, t560, t561⟩, A160, H⟩ := H
  try dsimp only at H
  have A16 := Aside0.mk A160
  clear A160
  replace H := Option.bind_eq_some_iff.mp H
  obtain ⟨⟨t563, t564, t565, t566, t567, t568⟩, A170, H⟩ := H
  try dsimp only at H
  have A17 := Aside0.mk A170
  clear A170
  replace H := Option.bind_eq_some_iff.mp H
  obtain ⟨⟨t570, t571, t572, t573, t574, t575⟩, A180, H⟩ := H
  try dsimp only at H
  have A18 := Aside0.mk A180
  clear A180
  replace H := Option.bind_eq_some_iff.mp H
  obtain ⟨⟨t577, t578, t579, t580, t581, t582⟩, A190, H⟩ := H
  try dsimp only at H
  have A19 := Aside0.mk A190
  clear A190
  replace H := Option.bind_eq_some_iff.mp H
  obtain ⟨⟨t584, t585, t586, t587, t588, t589⟩, A200, H⟩ := H
  try dsimp only at H
  have A20 := Aside0.mk A200
  clear A200
  replace H := Option.bind_eq_some_iff.mp H
  obtain ⟨⟨t591, t592, t593, t594, t595, t596⟩, A210, H⟩ := H
  try dsimp only at H
  have A21 := Aside0.mk A210
  clear A210
  replace H := Option.bind_eq_some_iff.mp H
  obtain ⟨⟨t598, t599, t600, t601, t602, t603⟩, A220, H⟩ := H
  try dsimp only at H
  have A22 := Aside0.mk A220
  clear A220
  replace H := Option.bind_eq_some_iff.mp H
  obtain ⟨⟨t605, t606, t607, t608, t609, t610⟩, A230, H⟩ := H
  try dsimp only at H
  have A23 := Aside0.mk A230
  clear A230
  replace H := Option.bind_eq_some_iff.mp H
  obtain ⟨⟨t612, t613, t614, t615, t616, t617⟩, A240, H⟩ := H
  try dsimp only at H
  have A24 := Aside0.mk A240
  clear A240
  replace H := Option.bind_eq_some_iff.mp H
  obtain ⟨⟨t619, t620, t621, t622, t623, t624⟩, A250, H⟩ := H
  try dsimp only at H
  have A25 := Aside0.mk A250
  clear A250
  replace H := Option.bind_eq_some_iff.mp H
  obtain ⟨⟨t626, t627⟩, A260, H⟩ := H
  try dsimp only at H
  have A26 := Aside0.mk A260
  clear A260
  replace H := Option.bind_eq_some_iff.mp H
  obtain ⟨⟨t628, t629⟩, A270, H⟩ := H
  try dsimp only at H
  have A27 := Aside0.mk A270
  clear A270
  have HE := Aside0.mk (tt_and (same_Open hs0 A10.out A11.out) (tt_and (same_Lease hs0 A12.out A13.out) (tt_and (same_Done hs0 A14.out A15.out) (tt_and (same_Fail hs0 A16.out A17.out) (tt_and (same_Beat hs0 A18.out A19.out) (tt_and (same_Wake hs0 A20.out A21.out) (tt_and (same_Lapse hs0 A22.out A23.out) (tt_and (same_Drop hs0 A24.out A25.out) (same_Pause A26.out A27.out)))))))))
  have HC28 := Aside0.mk H
  clear H
  go_enter Try.func6, Try.ntmps6
  go_upto_region 21 with (first | ((with_reducible refine gate_dst (N := 4) rfl ?_); refine box_event ?hg (N := 4) ?hd (cs := #[.slice A0_0 l0_0.length c0_0, .int .i64 a0_1, .int .i64 a0_2]) (t := 24) ?hr ?_; (case hd => rfl); (case hg => rfl); (case hr => first | (go_simp; done) | (go_simp; rfl)); intro gb512 hg w29 hbox hb; have BK512 := Aside0.mk (hbox); have GW512 := bz_ (hB_ HB.out) hg; have GE512 := bz_ (hB_ HB.out) hg; replace HB := Aside0.mk (below_step (hB_ HB.out) hb); clear hb hbox hg) | ((with_reducible refine gate_dst (N := 5) rfl ?_); refine box_event ?hg (N := 5) ?hd (cs := #[.int .u8 a1_0, .int .i64 a1_1, .int .i64 a1_2, .int .i64 a1_3, .int .i64 a1_4]) (t := 31) ?hr ?_; (case hd => rfl); (case hg => rfl); (case hr => first | (go_simp; done) | (go_simp; rfl)); intro gb513 hg w30 hbox hb; have BK513 := Aside0.mk (hbox); have GW513 := bz_ (hB_ HB.out) hg; have GE513 := bz_ (hB_ HB.out) hg; replace HB := Aside0.mk (below_step (hB_ HB.out) hb); have NB512_513 := bn_ BK512 hg; have NB513_512 := bm_ BK512 hg; replace BK512 := bs_ BK512 hb; clear hb hbox hg; have hnb31 := NB512_513.out; have hnc31 := NB513_512.out; have hcz32_0 : w30.cell? ⟨gb512, 0, none⟩ = some (.slice A0_0 l0_0.length c0_0) := ck_ BK512 0; have hcz32_1 : w30.cell? ⟨gb512, 1, none⟩ = some (.int .i64 a0_1) := ck_ BK512 1; have hcz32_2 : w30.cell? ⟨gb512, 2, none⟩ = some (.int .i64 a0_2) := ck_ BK512 2; have hfz32_0 := blk_frozen BK512.out 0; have hfz32_1 := blk_frozen BK512.out 1; have hfz32_2 := blk_frozen BK512.out 2; have hcz33_0 : w30.cell? ⟨gb513, 0, none⟩ = some (.int .u8 a1_0) := ck_ BK513 0; have hcz33_1 : w30.cell? ⟨gb513, 1, none⟩ = some (.int .i64 a1_1) := ck_ BK513 1; have hcz33_2 : w30.cell? ⟨gb513, 2, none⟩ = some (.int .i64 a1_2) := ck_ BK513 2; have hcz33_3 : w30.cell? ⟨gb513, 3, none⟩ = some (.int .i64 a1_3) := ck_ BK513 3; have hcz33_4 : w30.cell? ⟨gb513, 4, none⟩ = some (.int .i64 a1_4) := ck_ BK513 4; have hfz33_0 := blk_frozen BK513.out 0; have hfz33_1 := blk_frozen BK513.out 1; have hfz33_2 := blk_frozen BK513.out 2; have hfz33_3 := blk_frozen BK513.out 3; have hfz33_4 := blk_frozen BK513.out 4) | ((with_reducible refine gate_callee (f := 17) rfl ?_); refine goesL_ (some 55) rfl rfl Try.func17 (by kernel_rfl) rfl #[.agg #[.slice A0_0 l0_0.length c0_0, .int .i64 a0_1, .int .i64 a0_2], .agg #[.int .u8 a1_0, .int .i64 a1_1, .int .i64 a1_2, .int .i64 a1_3, .int .i64 a1_4], .int .i64 a2] rfl (by (try simp only [List.map_toArray, List.map_cons, List.map_nil]); first | done | rfl | (simp only [List.length_drop, List.length_take]; rfl)) ?_; (with_reducible refine (task_Open.calls k _ _ l0_0 a0_1 a0_2 a1_0 a1_1 a1_2 a1_3 a1_4 a2 t514 t515 t516 t517 t518 t519 _ ?side1 ?side2 A10.out).mono ?_); (case side1 => repeat (first | exact (Kd.C_below HR0_0.out HB.out) | (with_reducible refine Kd.C_alloc ?_ _) | (with_reducible refine Kd.C_drewN ?_ _) | (with_reducible refine Kd.C_drew ?_))); (case side2 => exact HC0_0.out); rintro e w34 ⟨rfl, hb⟩; refine ⟨_, rfl, ?_⟩; replace BK512 := bs_ BK512 hb; replace BK513 := bs_ BK513 hb; replace HB := Aside0.mk (below_step (hB_ HB.out) hb); (try clear hb); (try clear hb2); (try clear hk); (try clear hi); (try clear hnb31 hnc31 hcz32_0 hcz32_1 hcz32_2 hfz32_0 hfz32_1 hfz32_2 hcz33_0 hcz33_1 hcz33_2 hcz33_3 hcz33_4 hfz33_0 hfz33_1 hfz33_2 hfz33_3 hfz33_4)) | ((with_reducible refine gate_dst (N := 9) rfl ?_); refine box_event ?hg (N := 9) ?hd (cs := #[.int .u8 0, .int .i64 0, .int .i64 0, .int .i64 0, .int .i64 0]) (t := 31) ?hr ?_; (case hd => rfl); (case hg => rfl); (case hr => first | (go_simp; done) | (go_simp; rfl)); intro gb520 hg w35 hbox hb; have BK520 := Aside0.mk (hbox); have GW520 := bz_ (hB_ HB.out) hg; have GE520 := bz_ (hB_ HB.out) hg; replace HB := Aside0.mk (below_step (hB_ HB.out) hb); have NB512_520 := bn_ BK512 hg; have NB520_512 := bm_ BK512 hg; replace BK512 := bs_ BK512 hb; have NB513_520 := bn_ BK513 hg; have NB520_513 := bm_ BK513 hg; replace BK513 := bs_ BK513 hb; clear hb hbox hg; (try clear hnb31 hnc31 hcz32_0 hcz32_1 hcz32_2 hfz32_0 hfz32_1 hfz32_2 hcz33_0 hcz33_1 hcz33_2 hcz33_3 hcz33_4 hfz33_0 hfz33_1 hfz33_2 hfz33_3 hfz33_4); have hnb36 := NB520_512.out; have hnc36 := NB512_520.out; have hnb37 := NB520_513.out; have hnc37 := NB513_520.out; have hcz38_0 : w35.cell? ⟨gb520, 0, none⟩ = some (.int .u8 0) := ck_ BK520 0; have hcz38_1 : w35.cell? ⟨gb520, 1, none⟩ = some (.int .i64 0) := ck_ BK520 1; have hcz38_2 : w35.cell? ⟨gb520, 2, none⟩ = some (.int .i64 0) := ck_ BK520 2; have hcz38_3 : w35.cell? ⟨gb520, 3, none⟩ = some (.int .i64 0) := ck_ BK520 3; have hcz38_4 : w35.cell? ⟨gb520, 4, none⟩ = some (.int .i64 0) := ck_ BK520 4; have hfz38_0 := blk_frozen BK520.out 0; have hfz38_1 := blk_frozen BK520.out 1; have hfz38_2 := blk_frozen BK520.out 2; have hfz38_3 := blk_frozen BK520.out 3; have hfz38_4 := blk_frozen BK520.out 4; have hcz39_0 : w35.cell? ⟨gb512, 0, none⟩ = some (.slice A0_0 l0_0.length c0_0) := ck_ BK512 0; have hcz39_1 : w35.cell? ⟨gb512, 1, none⟩ = some (.int .i64 a0_1) := ck_ BK512 1; have hcz39_2 : w35.cell? ⟨gb512, 2, none⟩ = some (.int .i64 a0_2) := ck_ BK512 2; have hfz39_0 := blk_frozen BK512.out 0; have hfz39_1 := blk_frozen BK512.out 1; have hfz39_2 := blk_frozen BK512.out 2; have hcz40_0 : w35.cell? ⟨gb513, 0, none⟩ = some (.int .u8 a1_0) := ck_ BK513 0; have hcz40_1 : w35.cell? ⟨gb513, 1, none⟩ = some (.int .i64 a1_1) := ck_ BK513 1; have hcz40_2 : w35.cell? ⟨gb513, 2, none⟩ = some (.int .i64 a1_2) := ck_ BK513 2; have hcz40_3 : w35.cell? ⟨gb513, 3, none⟩ = some (.int .i64 a1_3) := ck_ BK513 3; have hcz40_4 : w35.cell? ⟨gb513, 4, none⟩ = some (.int .i64 a1_4) := ck_ BK513 4; have hfz40_0 := blk_frozen BK513.out 0; have hfz40_1 := blk_frozen BK513.out 1; have hfz40_2 := blk_frozen BK513.out 2; have hfz40_3 := blk_frozen BK513.out 3; have hfz40_4 := blk_frozen BK513.out 4) | ((with_reducible refine gate_callee (f := 18) rfl ?_); refine goesL_ (some 62) rfl rfl Try.func18 (by kernel_rfl) rfl #[.agg #[.slice A0_0 l0_0.length c0_0, .int .i64 a0_1, .int .i64 a0_2], .agg #[.int .u8 a1_0, .int .i64 a1_1, .int .i64 a1_2, .int .i64 a1_3, .int .i64 a1_4], .int .i64 a2] rfl (by (try simp only [List.map_toArray, List.map_cons, List.map_nil]); first | done | rfl | (simp only [List.length_drop, List.length_take]; rfl)) ?_; (with_reducible refine (millhandref24_Open.calls k _ _ l0_0 a0_1 a0_2 a1_0 a1_1 a1_2 a1_3 a1_4 a2 t521 t522 t523 t524 t525 t526 _ ?side1 ?side2 A11.out).mono ?_); (case side1 => exact Kd.C_below HR0_0.out (by repeat (first | (with_reducible first | exact HB.out | apply below_alloc | apply pw_below_drewN | apply below_drew1 | refine below_set ?_ GE512.out | refine below_set ?_ GE513.out | refine below_set ?_ GE520.out) | exact HB.out))); (case side2 => exact HC0_0.out); rintro e w41 ⟨rfl, hb⟩; refine ⟨_, rfl, ?_⟩; replace BK512 := bF_ BK512 NB512_520.out hb; replace BK513 := bF_ BK513 NB513_520.out hb; replace BK520 := Aside0.mk (blk_below (g := gb520) (o := .cells #[.int .u8 t514, .int .i64 t515, .int .i64 t516, .int .i64 t517, .int .i64 t518] 31 (0, 0)) (by (with_reducible repeat (first | refine blk_drewN ?_ _ | refine blk_drew ?_ | refine blk_alloc ?_ _)); refine blk_put (cs := #[.int .u8 t514, .int .i64 t515, .int .i64 t516, .int .i64 t517, .int .i64 0]) ?_ 4 _ rfl; (with_reducible repeat (first | refine blk_drewN ?_ _ | refine blk_drew ?_ | refine blk_alloc ?_ _)); refine blk_put (cs := #[.int .u8 t514, .int .i64 t515, .int .i64 t516, .int .i64 0, .int .i64 0]) ?_ 3 _ rfl; (with_reducible repeat (first | refine blk_drewN ?_ _ | refine blk_drew ?_ | refine blk_alloc ?_ _)); refine blk_put (cs := #[.int .u8 t514, .int .i64 t515, .int .i64 0, .int .i64 0, .int .i64 0]) ?_ 2 _ rfl; (with_reducible repeat (first | refine blk_drewN ?_ _ | refine blk_drew ?_ | refine blk_alloc ?_ _)); refine blk_put (cs := #[.int .u8 t514, .int .i64 0, .int .i64 0, .int .i64 0, .int .i64 0]) ?_ 1 _ rfl; (with_reducible repeat (first | refine blk_drewN ?_ _ | refine blk_drew ?_ | refine blk_alloc ?_ _)); refine blk_put (cs := #[.int .u8 0, .int .i64 0, .int .i64 0, .int .i64 0, .int .i64 0]) ?_ 0 _ rfl; (with_reducible repeat (first | refine blk_drewN ?_ _ | refine blk_drew ?_ | refine blk_alloc ?_ _)); exact BK520.out) hb); replace HB := Aside0.mk (below_step (hG_ HB.out GE520.out) hb); (try clear hb); (try clear hb2); (try clear hk); (try clear hi); (try clear hnb36 hnc36 hnb37 hnc37 hcz38_0 hcz38_1 hcz38_2 hcz38_3 hcz38_4 hfz38_0 hfz38_1 hfz38_2 hfz38_3 hfz38_4 hcz39_0 hcz39_1 hcz39_2 hfz39_0 hfz39_1 hfz39_2 hcz40_0 hcz40_1 hcz40_2 hcz40_3 hcz40_4 hfz40_0 hfz40_1 hfz40_2 hfz40_3 hfz40_4)) | ((with_reducible refine gate_dst (N := 11) rfl ?_); refine box_event ?hg (N := 11) ?hd (cs := #[.int .u8 0, .int .i64 0, .int .i64 0, .int .i64 0, .int .i64 0]) (t := 31) ?hr ?_; (case hd => rfl); (case hg => rfl); (case hr => first | (go_simp; done) | (go_simp; rfl)); intro gb527 hg w42 hbox hb; have BK527 := Aside0.mk (hbox); have GW527 := bz_ (hB_ HB.out) hg; have GE527 := bz_ (hB_ HB.out) hg; replace HB := Aside0.mk (below_step (hB_ HB.out) hb); have NB512_527 := bn_ BK512 hg; have NB527_512 := bm_ BK512 hg; replace BK512 := bs_ BK512 hb; have NB513_527 := bn_ BK513 hg; have NB527_513 := bm_ BK513 hg; replace BK513 := bs_ BK513 hb; have NB520_527 := bn_ BK520 hg; have NB527_520 := bm_ BK520 hg; replace BK520 := bs_ BK520 hb; clear hb hbox hg; (try clear hnb36 hnc36 hnb37 hnc37 hcz38_0 hcz38_1 hcz38_2 hcz38_3 hcz38_4 hfz38_0 hfz38_1 hfz38_2 hfz38_3 hfz38_4 hcz39_0 hcz39_1 hcz39_2 hfz39_0 hfz39_1 hfz39_2 hcz40_0 hcz40_1 hcz40_2 hcz40_3 hcz40_4 hfz40_0 hfz40_1 hfz40_2 hfz40_3 hfz40_4); have hnb43 := NB527_512.out; have hnc43 := NB512_527.out; have hnb44 := NB527_513.out; have hnc44 := NB513_527.out; have hcz46_0 : w42.cell? ⟨gb527, 0, none⟩ = some (.int .u8 0) := ck_ BK527 0; have hcz46_1 : w42.cell? ⟨gb527, 1, none⟩ = some (.int .i64 0) := ck_ BK527 1; have hcz46_2 : w42.cell? ⟨gb527, 2, none⟩ = some (.int .i64 0) := ck_ BK527 2; have hcz46_3 : w42.cell? ⟨gb527, 3, none⟩ = some (.int .i64 0) := ck_ BK527 3; have hcz46_4 : w42.cell? ⟨gb527, 4, none⟩ = some (.int .i64 0) := ck_ BK527 4; have hfz46_0 := blk_frozen BK527.out 0; have hfz46_1 := blk_frozen BK527.out 1; have hfz46_2 := blk_frozen BK527.out 2; have hfz46_3 := blk_frozen BK527.out 3; have hfz46_4 := blk_frozen BK527.out 4; have hcz47_0 : w42.cell? ⟨gb512, 0, none⟩ = some (.slice A0_0 l0_0.length c0_0) := ck_ BK512 0; have hcz47_1 : w42.cell? ⟨gb512, 1, none⟩ = some (.int .i64 a0_1) := ck_ BK512 1; have hcz47_2 : w42.cell? ⟨gb512, 2, none⟩ = some (.int .i64 a0_2) := ck_ BK512 2; have hfz47_0 := blk_frozen BK512.out 0; have hfz47_1 := blk_frozen BK512.out 1; have hfz47_2 := blk_frozen BK512.out 2; have hcz48_0 : w42.cell? ⟨gb513, 0, none⟩ = some (.int .u8 a1_0) := ck_ BK513 0; have hcz48_1 : w42.cell? ⟨gb513, 1, none⟩ = some (.int .i64 a1_1) := ck_ BK513 1; have hcz48_2 : w42.cell? ⟨gb513, 2, none⟩ = some (.int .i64 a1_2) := ck_ BK513 2; have hcz48_3 : w42.cell? ⟨gb513, 3, none⟩ = some (.int .i64 a1_3) := ck_ BK513 3; have hcz48_4 : w42.cell? ⟨gb513, 4, none⟩ = some (.int .i64 a1_4) := ck_ BK513 4; have hfz48_0 := blk_frozen BK513.out 0; have hfz48_1 := blk_frozen BK513.out 1; have hfz48_2 := blk_frozen BK513.out 2; have hfz48_3 := blk_frozen BK513.out 3; have hfz48_4 := blk_frozen BK513.out 4) | ((with_reducible refine gate_callee (f := 19) rfl ?_); refine goesL_ (some 70) rfl rfl Try.func19 (by kernel_rfl) rfl #[.agg #[.slice A0_0 l0_0.length c0_0, .int .i64 a0_1, .int .i64 a0_2], .agg #[.int .u8 a1_0, .int .i64 a1_1, .int .i64 a1_2, .int .i64 a1_3, .int .i64 a1_4], .int .i64 a2, .int .i64 a3] rfl (by (try simp only [List.map_toArray, List.map_cons, List.map_nil]); first | done | rfl | (simp only [List.length_drop, List.length_take]; rfl)) ?_; (with_reducible refine (task_Lease.calls k _ _ l0_0 a0_1 a0_2 a1_0 a1_1 a1_2 a1_3 a1_4 a2 a3 t528 t529 t530 t531 t532 t533 _ ?side1 ?side2 A12.out).mono ?_); (case side1 => exact Kd.C_below HR0_0.out (by repeat (first | (with_reducible first | exact HB.out | apply below_alloc | apply pw_below_drewN | apply below_drew1 | refine below_set ?_ GE512.out | refine below_set ?_ GE513.out | refine below_set ?_ GE520.out | refine below_set ?_ GE527.out) | exact HB.out))); (case side2 => exact HC0_0.out); rintro e w49 ⟨rfl, hb⟩; refine ⟨_, rfl, ?_⟩; replace BK512 := bF_ BK512 NB512_527.out hb; replace BK513 := bF_ BK513 NB513_527.out hb; replace BK520 := bF_ BK520 NB520_527.out hb; replace BK527 := Aside0.mk (blk_below (g := gb527) (o := .cells #[.int .u8 t521, .int .i64 t522, .int .i64 t523, .int .i64 t524, .int .i64 t525] 31 (0, 0)) (by (with_reducible repeat (first | refine blk_drewN ?_ _ | refine blk_drew ?_ | refine blk_alloc ?_ _)); refine blk_put (cs := #[.int .u8 t521, .int .i64 t522, .int .i64 t523, .int .i64 t524, .int .i64 0]) ?_ 4 _ rfl; (with_reducible repeat (first | refine blk_drewN ?_ _ | refine blk_drew ?_ | refine blk_alloc ?_ _)); refine blk_put (cs := #[.int .u8 t521, .int .i64 t522, .int .i64 t523, .int .i64 0, .int .i64 0]) ?_ 3 _ rfl; (with_reducible repeat (first | refine blk_drewN ?_ _ | refine blk_drew ?_ | refine blk_alloc ?_ _)); refine blk_put (cs := #[.int .u8 t521, .int .i64 t522, .int .i64 0, .int .i64 0, .int .i64 0]) ?_ 2 _ rfl; (with_reducible repeat (first | refine blk_drewN ?_ _ | refine blk_drew ?_ | refine blk_alloc ?_ _)); refine blk_put (cs := #[.int .u8 t521, .int .i64 0, .int .i64 0, .int .i64 0, .int .i64 0]) ?_ 1 _ rfl; (with_reducible repeat (first | refine blk_drewN ?_ _ | refine blk_drew ?_ | refine blk_alloc ?_ _)); refine blk_put (cs := #[.int .u8 0, .int .i64 0, .int .i64 0, .int .i64 0, .int .i64 0]) ?_ 0 _ rfl; (with_reducible repeat (first | refine blk_drewN ?_ _ | refine blk_drew ?_ | refine blk_alloc ?_ _)); exact BK527.out) hb); replace HB := Aside0.mk (below_step (hG_ HB.out GE527.out) hb); (try clear hb); (try clear hb2); (try clear hk); (try clear hi); (try clear hnb43 hnc43 hnb44 hnc44 hcz46_0 hcz46_1 hcz46_2 hcz46_3 hcz46_4 hfz46_0 hfz46_1 hfz46_2 hfz46_3 hfz46_4 hcz47_0 hcz47_1 hcz47_2 hfz47_0 hfz47_1 hfz47_2 hcz48_0 hcz48_1 hcz48_2 hcz48_3 hcz48_4 hfz48_0 hfz48_1 hfz48_2 hfz48_3 hfz48_4)) | ((with_reducible refine gate_dst (N := 13) rfl ?_); refine box_event ?hg (N := 13) ?hd (cs := #[.int .u8 0, .int .i64 0, .int .i64 0, .int .i64 0, .int .i64 0]) (t := 31) ?hr ?_; (case hd => rfl); (case hg => rfl); (case hr => first | (go_simp; done) | (go_simp; rfl)); intro gb534 hg w50 hbox hb; have BK534 := Aside0.mk (hbox); have GW534 := bz_ (hB_ HB.out) hg; have GE534 := bz_ (hB_ HB.out) hg; replace HB := Aside0.mk (below_step (hB_ HB.out) hb); have NB512_534 := bn_ BK512 hg; have NB534_512 := bm_ BK512 hg; replace BK512 := bs_ BK512 hb; have NB513_534 := bn_ BK513 hg; have NB534_513 := bm_ BK513 hg; replace BK513 := bs_ BK513 hb; have NB520_534 := bn_ BK520 hg; have NB534_520 := bm_ BK520 hg; replace BK520 := bs_ BK520 hb; have NB527_534 := bn_ BK527 hg; have NB534_527 := bm_ BK527 hg; replace BK527 := bs_ BK527 hb; clear hb hbox hg; (try clear hnb43 hnc43 hnb44 hnc44 hcz46_0 hcz46_1 hcz46_2 hcz46_3 hcz46_4 hfz46_0 hfz46_1 hfz46_2 hfz46_3 hfz46_4 hcz47_0 hcz47_1 hcz47_2 hfz47_0 hfz47_1 hfz47_2 hcz48_0 hcz48_1 hcz48_2 hcz48_3 hcz48_4 hfz48_0 hfz48_1 hfz48_2 hfz48_3 hfz48_4); have hnb51 := NB534_512.out; have hnc51 := NB512_534.out; have hnb52 := NB534_513.out; have hnc52 := NB513_534.out; have hcz55_0 : w50.cell? ⟨gb534, 0, none⟩ = some (.int .u8 0) := ck_ BK534 0; have hcz55_1 : w50.cell? ⟨gb534, 1, none⟩ = some (.int .i64 0) := ck_ BK534 1; have hcz55_2 : w50.cell? ⟨gb534, 2, none⟩ = some (.int .i64 0) := ck_ BK534 2; have hcz55_3 : w50.cell? ⟨gb534, 3, none⟩ = some (.int .i64 0) := ck_ BK534 3; have hcz55_4 : w50.cell? ⟨gb534, 4, none⟩ = some (.int .i64 0) := ck_ BK534 4; have hfz55_0 := blk_frozen BK534.out 0; have hfz55_1 := blk_frozen BK534.out 1; have hfz55_2 := blk_frozen BK534.out 2; have hfz55_3 := blk_frozen BK534.out 3; have hfz55_4 := blk_frozen BK534.out 4; have hcz56_0 : w50.cell? ⟨gb512, 0, none⟩ = some (.slice A0_0 l0_0.length c0_0) := ck_ BK512 0; have hcz56_1 : w50.cell? ⟨gb512, 1, none⟩ = some (.int .i64 a0_1) := ck_ BK512 1; have hcz56_2 : w50.cell? ⟨gb512, 2, none⟩ = some (.int .i64 a0_2) := ck_ BK512 2; have hfz56_0 := blk_frozen BK512.out 0; have hfz56_1 := blk_frozen BK512.out 1; have hfz56_2 := blk_frozen BK512.out 2; have hcz57_0 : w50.cell? ⟨gb513, 0, none⟩ = some (.int .u8 a1_0) := ck_ BK513 0; have hcz57_1 : w50.cell? ⟨gb513, 1, none⟩ = some (.int .i64 a1_1) := ck_ BK513 1; have hcz57_2 : w50.cell? ⟨gb513, 2, none⟩ = some (.int .i64 a1_2) := ck_ BK513 2; have hcz57_3 : w50.cell? ⟨gb513, 3, none⟩ = some (.int .i64 a1_3) := ck_ BK513 3; have hcz57_4 : w50.cell? ⟨gb513, 4, none⟩ = some (.int .i64 a1_4) := ck_ BK513 4; have hfz57_0 := blk_frozen BK513.out 0; have hfz57_1 := blk_frozen BK513.out 1; have hfz57_2 := blk_frozen BK513.out 2; have hfz57_3 := blk_frozen BK513.out 3; have hfz57_4 := blk_frozen BK513.out 4) | ((with_reducible refine gate_callee (f := 20) rfl ?_); refine goesL_ (some 78) rfl rfl Try.func20 (by kernel_rfl) rfl #[.agg #[.slice A0_0 l0_0.length c0_0, .int .i64 a0_1, .int .i64 a0_2], .agg #[.int .u8 a1_0, .int .i64 a1_1, .int .i64 a1_2, .int .i64 a1_3, .int .i64 a1_4], .int .i64 a2, .int .i64 a3] rfl (by (try simp only [List.map_toArray, List.map_cons, List.map_nil]); first | done | rfl | (simp only [List.length_drop, List.length_take]; rfl)) ?_; (with_reducible refine (millhandref24_Lease.calls k _ _ l0_0 a0_1 a0_2 a1_0 a1_1 a1_2 a1_3 a1_4 a2 a3 t535 t536 t537 t538 t539 t540 _ ?side1 ?side2 A13.out).mono ?_); (case side1 => exact Kd.C_below HR0_0.out (by repeat (first | (with_reducible first | exact HB.out | apply below_alloc | apply pw_below_drewN | apply below_drew1 | refine below_set ?_ GE512.out | refine below_set ?_ GE513.out | refine below_set ?_ GE520.out | refine below_set ?_ GE527.out | refine below_set ?_ GE534.out) | exact HB.out))); (case side2 => exact HC0_0.out); rintro e w58 ⟨rfl, hb⟩; refine ⟨_, rfl, ?_⟩; replace BK512 := bF_ BK512 NB512_534.out hb; replace BK513 := bF_ BK513 NB513_534.out hb; replace BK520 := bF_ BK520 NB520_534.out hb; replace BK527 := bF_ BK527 NB527_534.out hb; replace BK534 := Aside0.mk (blk_below (g := gb534) (o := .cells #[.int .u8 t528, .int .i64 t529, .int .i64 t530, .int .i64 t531, .int .i64 t532] 31 (0, 0)) (by (with_reducible repeat (first | refine blk_drewN ?_ _ | refine blk_drew ?_ | refine blk_alloc ?_ _)); refine blk_put (cs := #[.int .u8 t528, .int .i64 t529, .int .i64 t530, .int .i64 t531, .int .i64 0]) ?_ 4 _ rfl; (with_reducible repeat (first | refine blk_drewN ?_ _ | refine blk_drew ?_ | refine blk_alloc ?_ _)); refine blk_put (cs := #[.int .u8 t528, .int .i64 t529, .int .i64 t530, .int .i64 0, .int .i64 0]) ?_ 3 _ rfl; (with_reducible repeat (first | refine blk_drewN ?_ _ | refine blk_drew ?_ | refine blk_alloc ?_ _)); refine blk_put (cs := #[.int .u8 t528, .int .i64 t529, .int .i64 0, .int .i64 0, .int .i64 0]) ?_ 2 _ rfl; (with_reducible repeat (first | refine blk_drewN ?_ _ | refine blk_drew ?_ | refine blk_alloc ?_ _)); refine blk_put (cs := #[.int .u8 t528, .int .i64 0, .int .i64 0, .int .i64 0, .int .i64 0]) ?_ 1 _ rfl; (with_reducible repeat (first | refine blk_drewN ?_ _ | refine blk_drew ?_ | refine blk_alloc ?_ _)); refine blk_put (cs := #[.int .u8 0, .int .i64 0, .int .i64 0, .int .i64 0, .int .i64 0]) ?_ 0 _ rfl; (with_reducible repeat (first | refine blk_drewN ?_ _ | refine blk_drew ?_ | refine blk_alloc ?_ _)); exact BK534.out) hb); replace HB := Aside0.mk (below_step (hG_ HB.out GE534.out) hb); (try clear hb); (try clear hb2); (try clear hk); (try clear hi); (try clear hnb51 hnc51 hnb52 hnc52 hcz55_0 hcz55_1 hcz55_2 hcz55_3 hcz55_4 hfz55_0 hfz55_1 hfz55_2 hfz55_3 hfz55_4 hcz56_0 hcz56_1 hcz56_2 hfz56_0 hfz56_1 hfz56_2 hcz57_0 hcz57_1 hcz57_2 hcz57_3 hcz57_4 hfz57_0 hfz57_1 hfz57_2 hfz57_3 hfz57_4)) | ((with_reducible refine gate_dst (N := 15) rfl ?_); refine box_event ?hg (N := 15) ?hd (cs := #[.int .u8 0, .int .i64 0, .int .i64 0, .int .i64 0, .int .i64 0]) (t := 31) ?hr ?_; (case hd => rfl); (case hg => rfl); (case hr => first | (go_simp; done) | (go_simp; rfl)); intro gb541 hg w59 hbox hb; have BK541 := Aside0.mk (hbox); have GW541 := bz_ (hB_ HB.out) hg; have GE541 := bz_ (hB_ HB.out) hg; replace HB := Aside0.mk (below_step (hB_ HB.out) hb); have NB512_541 := bn_ BK512 hg; have NB541_512 := bm_ BK512 hg; replace BK512 := bs_ BK512 hb; have NB513_541 := bn_ BK513 hg; have NB541_513 := bm_ BK513 hg; replace BK513 := bs_ BK513 hb; have NB520_541 := bn_ BK520 hg; have NB541_520 := bm_ BK520 hg; replace BK520 := bs_ BK520 hb; have NB527_541 := bn_ BK527 hg; have NB541_527 := bm_ BK527 hg; replace BK527 := bs_ BK527 hb; have NB534_541 := bn_ BK534 hg; have NB541_534 := bm_ BK534 hg; replace BK534 := bs_ BK534 hb; clear hb hbox hg; (try clear hnb51 hnc51 hnb52 hnc52 hcz55_0 hcz55_1 hcz55_2 hcz55_3 hcz55_4 hfz55_0 hfz55_1 hfz55_2 hfz55_3 hfz55_4 hcz56_0 hcz56_1 hcz56_2 hfz56_0 hfz56_1 hfz56_2 hcz57_0 hcz57_1 hcz57_2 hcz57_3 hcz57_4 hfz57_0 hfz57_1 hfz57_2 hfz57_3 hfz57_4); have hnb60 := NB541_512.out; have hnc60 := NB512_541.out; have hnb61 := NB541_513.out; have hnc61 := NB513_541.out; have hcz65_0 : w59.cell? ⟨gb541, 0, none⟩ = some (.int .u8 0) := ck_ BK541 0; have hcz65_1 : w59.cell? ⟨gb541, 1, none⟩ = some (.int .i64 0) := ck_ BK541 1; have hcz65_2 : w59.cell? ⟨gb541, 2, none⟩ = some (.int .i64 0) := ck_ BK541 2; have hcz65_3 : w59.cell? ⟨gb541, 3, none⟩ = some (.int .i64 0) := ck_ BK541 3; have hcz65_4 : w59.cell? ⟨gb541, 4, none⟩ = some (.int .i64 0) := ck_ BK541 4; have hfz65_0 := blk_frozen BK541.out 0; have hfz65_1 := blk_frozen BK541.out 1; have hfz65_2 := blk_frozen BK541.out 2; have hfz65_3 := blk_frozen BK541.out 3; have hfz65_4 := blk_frozen BK541.out 4; have hcz66_0 : w59.cell? ⟨gb512, 0, none⟩ = some (.slice A0_0 l0_0.length c0_0) := ck_ BK512 0; have hcz66_1 : w59.cell? ⟨gb512, 1, none⟩ = some (.int .i64 a0_1) := ck_ BK512 1; have hcz66_2 : w59.cell? ⟨gb512, 2, none⟩ = some (.int .i64 a0_2) := ck_ BK512 2; have hfz66_0 := blk_frozen BK512.out 0; have hfz66_1 := blk_frozen BK512.out 1; have hfz66_2 := blk_frozen BK512.out 2; have hcz67_0 : w59.cell? ⟨gb513, 0, none⟩ = some (.int .u8 a1_0) := ck_ BK513 0; have hcz67_1 : w59.cell? ⟨gb513, 1, none⟩ = some (.int .i64 a1_1) := ck_ BK513 1; have hcz67_2 : w59.cell? ⟨gb513, 2, none⟩ = some (.int .i64 a1_2) := ck_ BK513 2; have hcz67_3 : w59.cell? ⟨gb513, 3, none⟩ = some (.int .i64 a1_3) := ck_ BK513 3; have hcz67_4 : w59.cell? ⟨gb513, 4, none⟩ = some (.int .i64 a1_4) := ck_ BK513 4; have hfz67_0 := blk_frozen BK513.out 0; have hfz67_1 := blk_frozen BK513.out 1; have hfz67_2 := blk_frozen BK513.out 2; have hfz67_3 := blk_frozen BK513.out 3; have hfz67_4 := blk_frozen BK513.out 4) | ((with_reducible refine gate_callee (f := 12) rfl ?_); refine goesL_ (some 85) rfl rfl Try.func12 (by kernel_rfl) rfl #[.agg #[.slice A0_0 l0_0.length c0_0, .int .i64 a0_1, .int .i64 a0_2], .agg #[.int .u8 a1_0, .int .i64 a1_1, .int .i64 a1_2, .int .i64 a1_3, .int .i64 a1_4], .int .i64 a2] rfl (by (try simp only [List.map_toArray, List.map_cons, List.map_nil]); first | done | rfl | (simp only [List.length_drop, List.length_take]; rfl)) ?_; (with_reducible refine (task_Done.calls k _ _ l0_0 a0_1 a0_2 a1_0 a1_1 a1_2 a1_3 a1_4 a2 t542 t543 t544 t545 t546 t547 _ ?side1 ?side2 A14.out).mono ?_); (case side1 => exact Kd.C_below HR0_0.out (by repeat (first | (with_reducible first | exact HB.out | apply below_alloc | apply pw_below_drewN | apply below_drew1 | refine below_set ?_ GE512.out | refine below_set ?_ GE513.out | refine below_set ?_ GE520.out | refine below_set ?_ GE527.out | refine below_set ?_ GE534.out | refine below_set ?_ GE541.out) | exact HB.out))); (case side2 => exact HC0_0.out); rintro e w68 ⟨rfl, hb⟩; refine ⟨_, rfl, ?_⟩; replace BK512 := bF_ BK512 NB512_541.out hb; replace BK513 := bF_ BK513 NB513_541.out hb; replace BK520 := bF_ BK520 NB520_541.out hb; replace BK527 := bF_ BK527 NB527_541.out hb; replace BK534 := bF_ BK534 NB534_541.out hb; replace BK541 := Aside0.mk (blk_below (g := gb541) (o := .cells #[.int .u8 t535, .int .i64 t536, .int .i64 t537, .int .i64 t538, .int .i64 t539] 31 (0, 0)) (by (with_reducible repeat (first | refine blk_drewN ?_ _ | refine blk_drew ?_ | refine blk_alloc ?_ _)); refine blk_put (cs := #[.int .u8 t535, .int .i64 t536, .int .i64 t537, .int .i64 t538, .int .i64 0]) ?_ 4 _ rfl; (with_reducible repeat (first | refine blk_drewN ?_ _ | refine blk_drew ?_ | refine blk_alloc ?_ _)); refine blk_put (cs := #[.int .u8 t535, .int .i64 t536, .int .i64 t537, .int .i64 0, .int .i64 0]) ?_ 3 _ rfl; (with_reducible repeat (first | refine blk_drewN ?_ _ | refine blk_drew ?_ | refine blk_alloc ?_ _)); refine blk_put (cs := #[.int .u8 t535, .int .i64 t536, .int .i64 0, .int .i64 0, .int .i64 0]) ?_ 2 _ rfl; (with_reducible repeat (first | refine blk_drewN ?_ _ | refine blk_drew ?_ | refine blk_alloc ?_ _)); refine blk_put (cs := #[.int .u8 t535, .int .i64 0, .int .i64 0, .int .i64 0, .int .i64 0]) ?_ 1 _ rfl; (with_reducible repeat (first | refine blk_drewN ?_ _ | refine blk_drew ?_ | refine blk_alloc ?_ _)); refine blk_put (cs := #[.int .u8 0, .int .i64 0, .int .i64 0, .int .i64 0, .int .i64 0]) ?_ 0 _ rfl; (with_reducible repeat (first | refine blk_drewN ?_ _ | refine blk_drew ?_ | refine blk_alloc ?_ _)); exact BK541.out) hb); replace HB := Aside0.mk (below_step (hG_ HB.out GE541.out) hb); (try clear hb); (try clear hb2); (try clear hk); (try clear hi); (try clear hnb60 hnc60 hnb61 hnc61 hcz65_0 hcz65_1 hcz65_2 hcz65_3 hcz65_4 hfz65_0 hfz65_1 hfz65_2 hfz65_3 hfz65_4 hcz66_0 hcz66_1 hcz66_2 hfz66_0 hfz66_1 hfz66_2 hcz67_0 hcz67_1 hcz67_2 hcz67_3 hcz67_4 hfz67_0 hfz67_1 hfz67_2 hfz67_3 hfz67_4)) | ((with_reducible refine gate_dst (N := 17) rfl ?_); refine box_event ?hg (N := 17) ?hd (cs := #[.int .u8 0, .int .i64 0, .int .i64 0, .int .i64 0, .int .i64 0]) (t := 31) ?hr ?_; (case hd => rfl); (case hg => rfl); (case hr => first | (go_simp; done) | (go_simp; rfl)); intro gb548 hg w69 hbox hb; have BK548 := Aside0.mk (hbox); have GW548 := bz_ (hB_ HB.out) hg; have GE548 := bz_ (hB_ HB.out) hg; replace HB := Aside0.mk (below_step (hB_ HB.out) hb); have NB512_548 := bn_ BK512 hg; have NB548_512 := bm_ BK512 hg; replace BK512 := bs_ BK512 hb; have NB513_548 := bn_ BK513 hg; have NB548_513 := bm_ BK513 hg; replace BK513 := bs_ BK513 hb; have NB520_548 := bn_ BK520 hg; have NB548_520 := bm_ BK520 hg; replace BK520 := bs_ BK520 hb; have NB527_548 := bn_ BK527 hg; have NB548_527 := bm_ BK527 hg; replace BK527 := bs_ BK527 hb; have NB534_548 := bn_ BK534 hg; have NB548_534 := bm_ BK534 hg; replace BK534 := bs_ BK534 hb; have NB541_548 := bn_ BK541 hg; have NB548_541 := bm_ BK541 hg; replace BK541 := bs_ BK541 hb; clear hb hbox hg; (try clear hnb60 hnc60 hnb61 hnc61 hcz65_0 hcz65_1 hcz65_2 hcz65_3 hcz65_4 hfz65_0 hfz65_1 hfz65_2 hfz65_3 hfz65_4 hcz66_0 hcz66_1 hcz66_2 hfz66_0 hfz66_1 hfz66_2 hcz67_0 hcz67_1 hcz67_2 hcz67_3 hcz67_4 hfz67_0 hfz67_1 hfz67_2 hfz67_3 hfz67_4); have hnb70 := NB548_512.out; have hnc70 := NB512_548.out; have hnb71 := NB548_513.out; have hnc71 := NB513_548.out; have hcz76_0 : w69.cell? ⟨gb548, 0, none⟩ = some (.int .u8 0) := ck_ BK548 0; have hcz76_1 : w69.cell? ⟨gb548, 1, none⟩ = some (.int .i64 0) := ck_ BK548 1; have hcz76_2 : w69.cell? ⟨gb548, 2, none⟩ = some (.int .i64 0) := ck_ BK548 2; have hcz76_3 : w69.cell? ⟨gb548, 3, none⟩ = some (.int .i64 0) := ck_ BK548 3; have hcz76_4 : w69.cell? ⟨gb548, 4, none⟩ = some (.int .i64 0) := ck_ BK548 4; have hfz76_0 := blk_frozen BK548.out 0; have hfz76_1 := blk_frozen BK548.out 1; have hfz76_2 := blk_frozen BK548.out 2; have hfz76_3 := blk_frozen BK548.out 3; have hfz76_4 := blk_frozen BK548.out 4; have hcz77_0 : w69.cell? ⟨gb512, 0, none⟩ = some (.slice A0_0 l0_0.length c0_0) := ck_ BK512 0; have hcz77_1 : w69.cell? ⟨gb512, 1, none⟩ = some (.int .i64 a0_1) := ck_ BK512 1; have hcz77_2 : w69.cell? ⟨gb512, 2, none⟩ = some (.int .i64 a0_2) := ck_ BK512 2; have hfz77_0 := blk_frozen BK512.out 0; have hfz77_1 := blk_frozen BK512.out 1; have hfz77_2 := blk_frozen BK512.out 2; have hcz78_0 : w69.cell? ⟨gb513, 0, none⟩ = some (.int .u8 a1_0) := ck_ BK513 0; have hcz78_1 : w69.cell? ⟨gb513, 1, none⟩ = some (.int .i64 a1_1) := ck_ BK513 1; have hcz78_2 : w69.cell? ⟨gb513, 2, none⟩ = some (.int .i64 a1_2) := ck_ BK513 2; have hcz78_3 : w69.cell? ⟨gb513, 3, none⟩ = some (.int .i64 a1_3) := ck_ BK513 3; have hcz78_4 : w69.cell? ⟨gb513, 4, none⟩ = some (.int .i64 a1_4) := ck_ BK513 4; have hfz78_0 := blk_frozen BK513.out 0; have hfz78_1 := blk_frozen BK513.out 1; have hfz78_2 := blk_frozen BK513.out 2; have hfz78_3 := blk_frozen BK513.out 3; have hfz78_4 := blk_frozen BK513.out 4) | ((with_reducible refine gate_callee (f := 21) rfl ?_); refine goesL_ (some 92) rfl rfl Try.func21 (by kernel_rfl) rfl #[.agg #[.slice A0_0 l0_0.length c0_0, .int .i64 a0_1, .int .i64 a0_2], .agg #[.int .u8 a1_0, .int .i64 a1_1, .int .i64 a1_2, .int .i64 a1_3, .int .i64 a1_4], .int .i64 a2] rfl (by (try simp only [List.map_toArray, List.map_cons, List.map_nil]); first | done | rfl | (simp only [List.length_drop, List.length_take]; rfl)) ?_; (with_reducible refine (millhandref24_Done.calls k _ _ l0_0 a0_1 a0_2 a1_0 a1_1 a1_2 a1_3 a1_4 a2 t549 t550 t551 t552 t553 t554 _ ?side1 ?side2 A15.out).mono ?_); (case side1 => exact Kd.C_below HR0_0.out (by repeat (first | (with_reducible first | exact HB.out | apply below_alloc | apply pw_below_drewN | apply below_drew1 | refine below_set ?_ GE512.out | refine below_set ?_ GE513.out | refine below_set ?_ GE520.out | refine below_set ?_ GE527.out | refine below_set ?_ GE534.out | refine below_set ?_ GE541.out | refine below_set ?_ GE548.out) | exact HB.out))); (case side2 => exact HC0_0.out); rintro e w79 ⟨rfl, hb⟩; refine ⟨_, rfl, ?_⟩; replace BK512 := bF_ BK512 NB512_548.out hb; replace BK513 := bF_ BK513 NB513_548.out hb; replace BK520 := bF_ BK520 NB520_548.out hb; replace BK527 := bF_ BK527 NB527_548.out hb; replace BK534 := bF_ BK534 NB534_548.out hb; replace BK541 := bF_ BK541 NB541_548.out hb; replace BK548 := Aside0.mk (blk_below (g := gb548) (o := .cells #[.int .u8 t542, .int .i64 t543, .int .i64 t544, .int .i64 t545, .int .i64 t546] 31 (0, 0)) (by (with_reducible repeat (first | refine blk_drewN ?_ _ | refine blk_drew ?_ | refine blk_alloc ?_ _)); refine blk_put (cs := #[.int .u8 t542, .int .i64 t543, .int .i64 t544, .int .i64 t545, .int .i64 0]) ?_ 4 _ rfl; (with_reducible repeat (first | refine blk_drewN ?_ _ | refine blk_drew ?_ | refine blk_alloc ?_ _)); refine blk_put (cs := #[.int .u8 t542, .int .i64 t543, .int .i64 t544, .int .i64 0, .int .i64 0]) ?_ 3 _ rfl; (with_reducible repeat (first | refine blk_drewN ?_ _ | refine blk_drew ?_ | refine blk_alloc ?_ _)); refine blk_put (cs := #[.int .u8 t542, .int .i64 t543, .int .i64 0, .int .i64 0, .int .i64 0]) ?_ 2 _ rfl; (with_reducible repeat (first | refine blk_drewN ?_ _ | refine blk_drew ?_ | refine blk_alloc ?_ _)); refine blk_put (cs := #[.int .u8 t542, .int .i64 0, .int .i64 0, .int .i64 0, .int .i64 0]) ?_ 1 _ rfl; (with_reducible repeat (first | refine blk_drewN ?_ _ | refine blk_drew ?_ | refine blk_alloc ?_ _)); refine blk_put (cs := #[.int .u8 0, .int .i64 0, .int .i64 0, .int .i64 0, .int .i64 0]) ?_ 0 _ rfl; (with_reducible repeat (first | refine blk_drewN ?_ _ | refine blk_drew ?_ | refine blk_alloc ?_ _)); exact BK548.out) hb); replace HB := Aside0.mk (below_step (hG_ HB.out GE548.out) hb); (try clear hb); (try clear hb2); (try clear hk); (try clear hi); (try clear hnb70 hnc70 hnb71 hnc71 hcz76_0 hcz76_1 hcz76_2 hcz76_3 hcz76_4 hfz76_0 hfz76_1 hfz76_2 hfz76_3 hfz76_4 hcz77_0 hcz77_1 hcz77_2 hfz77_0 hfz77_1 hfz77_2 hcz78_0 hcz78_1 hcz78_2 hcz78_3 hcz78_4 hfz78_0 hfz78_1 hfz78_2 hfz78_3 hfz78_4)) | ((with_reducible refine gate_dst (N := 19) rfl ?_); refine box_event ?hg (N := 19) ?hd (cs := #[.int .u8 0, .int .i64 0, .int .i64 0, .int .i64 0, .int .i64 0]) (t := 31) ?hr ?_; (case hd => rfl); (case hg => rfl); (case hr => first | (go_simp; done) | (go_simp; rfl)); intro gb555 hg w80 hbox hb; have BK555 := Aside0.mk (hbox); have GW555 := bz_ (hB_ HB.out) hg; have GE555 := bz_ (hB_ HB.out) hg; replace HB := Aside0.mk (below_step (hB_ HB.out) hb); have NB512_555 := bn_ BK512 hg; have NB555_512 := bm_ BK512 hg; replace BK512 := bs_ BK512 hb; have NB513_555 := bn_ BK513 hg; have NB555_513 := bm_ BK513 hg; replace BK513 := bs_ BK513 hb; have NB520_555 := bn_ BK520 hg; have NB555_520 := bm_ BK520 hg; replace BK520 := bs_ BK520 hb; have NB527_555 := bn_ BK527 hg; have NB555_527 := bm_ BK527 hg; replace BK527 := bs_ BK527 hb; have NB534_555 := bn_ BK534 hg; have NB555_534 := bm_ BK534 hg; replace BK534 := bs_ BK534 hb; have NB541_555 := bn_ BK541 hg; have NB555_541 := bm_ BK541 hg; replace BK541 := bs_ BK541 hb; have NB548_555 := bn_ BK548 hg; have NB555_548 := bm_ BK548 hg; replace BK548 := bs_ BK548 hb; clear hb hbox hg; (try clear hnb70 hnc70 hnb71 hnc71 hcz76_0 hcz76_1 hcz76_2 hcz76_3 hcz76_4 hfz76_0 hfz76_1 hfz76_2 hfz76_3 hfz76_4 hcz77_0 hcz77_1 hcz77_2 hfz77_0 hfz77_1 hfz77_2 hcz78_0 hcz78_1 hcz78_2 hcz78_3 hcz78_4 hfz78_0 hfz78_1 hfz78_2 hfz78_3 hfz78_4); have hnb81 := NB555_512.out; have hnc81 := NB512_555.out; have hnb82 := NB555_513.out; have hnc82 := NB513_555.out; have hcz88_0 : w80.cell? ⟨gb555, 0, none⟩ = some (.int .u8 0) := ck_ BK555 0; have hcz88_1 : w80.cell? ⟨gb555, 1, none⟩ = some (.int .i64 0) := ck_ BK555 1; have hcz88_2 : w80.cell? ⟨gb555, 2, none⟩ = some (.int .i64 0) := ck_ BK555 2; have hcz88_3 : w80.cell? ⟨gb555, 3, none⟩ = some (.int .i64 0) := ck_ BK555 3; have hcz88_4 : w80.cell? ⟨gb555, 4, none⟩ = some (.int .i64 0) := ck_ BK555 4; have hfz88_0 := blk_frozen BK555.out 0; have hfz88_1 := blk_frozen BK555.out 1; have hfz88_2 := blk_frozen BK555.out 2; have hfz88_3 := blk_frozen BK555.out 3; have hfz88_4 := blk_frozen BK555.out 4; have hcz89_0 : w80.cell? ⟨gb512, 0, none⟩ = some (.slice A0_0 l0_0.length c0_0) := ck_ BK512 0; have hcz89_1 : w80.cell? ⟨gb512, 1, none⟩ = some (.int .i64 a0_1) := ck_ BK512 1; have hcz89_2 : w80.cell? ⟨gb512, 2, none⟩ = some (.int .i64 a0_2) := ck_ BK512 2; have hfz89_0 := blk_frozen BK512.out 0; have hfz89_1 := blk_frozen BK512.out 1; have hfz89_2 := blk_frozen BK512.out 2; have hcz90_0 : w80.cell? ⟨gb513, 0, none⟩ = some (.int .u8 a1_0) := ck_ BK513 0; have hcz90_1 : w80.cell? ⟨gb513, 1, none⟩ = some (.int .i64 a1_1) := ck_ BK513 1; have hcz90_2 : w80.cell? ⟨gb513, 2, none⟩ = some (.int .i64 a1_2) := ck_ BK513 2; have hcz90_3 : w80.cell? ⟨gb513, 3, none⟩ = some (.int .i64 a1_3) := ck_ BK513 3; have hcz90_4 : w80.cell? ⟨gb513, 4, none⟩ = some (.int .i64 a1_4) := ck_ BK513 4; have hfz90_0 := blk_frozen BK513.out 0; have hfz90_1 := blk_frozen BK513.out 1; have hfz90_2 := blk_frozen BK513.out 2; have hfz90_3 := blk_frozen BK513.out 3; have hfz90_4 := blk_frozen BK513.out 4) | ((with_reducible refine gate_callee (f := 22) rfl ?_); refine goesL_ (some 100) rfl rfl Try.func22 (by kernel_rfl) rfl #[.agg #[.slice A0_0 l0_0.length c0_0, .int .i64 a0_1, .int .i64 a0_2], .agg #[.int .u8 a1_0, .int .i64 a1_1, .int .i64 a1_2, .int .i64 a1_3, .int .i64 a1_4], .int .i64 a2, .int .i64 a3] rfl (by (try simp only [List.map_toArray, List.map_cons, List.map_nil]); first | done | rfl | (simp only [List.length_drop, List.length_take]; rfl)) ?_; (with_reducible refine (task_Fail.calls k _ _ l0_0 a0_1 a0_2 a1_0 a1_1 a1_2 a1_3 a1_4 a2 a3 t556 t557 t558 t559 t560 t561 _ ?side1 ?side2 A16.out).mono ?_); (case side1 => exact Kd.C_below HR0_0.out (by repeat (first | (with_reducible first | exact HB.out | apply below_alloc | apply pw_below_drewN | apply below_drew1 | refine below_set ?_ GE512.out | refine below_set ?_ GE513.out | refine below_set ?_ GE520.out | refine below_set ?_ GE527.out | refine below_set ?_ GE534.out | refine below_set ?_ GE541.out | refine below_set ?_ GE548.out | refine below_set ?_ GE555.out) | exact HB.out))); (case side2 => exact HC0_0.out); rintro e w91 ⟨rfl, hb⟩; refine ⟨_, rfl, ?_⟩; replace BK512 := bF_ BK512 NB512_555.out hb; replace BK513 := bF_ BK513 NB513_555.out hb; replace BK520 := bF_ BK520 NB520_555.out hb; replace BK527 := bF_ BK527 NB527_555.out hb; replace BK534 := bF_ BK534 NB534_555.out hb; replace BK541 := bF_ BK541 NB541_555.out hb; replace BK548 := bF_ BK548 NB548_555.out hb; replace BK555 := Aside0.mk (blk_below (g := gb555) (o := .cells #[.int .u8 t549, .int .i64 t550, .int .i64 t551, .int .i64 t552, .int .i64 t553] 31 (0, 0)) (by (with_reducible repeat (first | refine blk_drewN ?_ _ | refine blk_drew ?_ | refine blk_alloc ?_ _)); refine blk_put (cs := #[.int .u8 t549, .int .i64 t550, .int .i64 t551, .int .i64 t552, .int .i64 0]) ?_ 4 _ rfl; (with_reducible repeat (first | refine blk_drewN ?_ _ | refine blk_drew ?_ | refine blk_alloc ?_ _)); refine blk_put (cs := #[.int .u8 t549, .int .i64 t550, .int .i64 t551, .int .i64 0, .int .i64 0]) ?_ 3 _ rfl; (with_reducible repeat (first | refine blk_drewN ?_ _ | refine blk_drew ?_ | refine blk_alloc ?_ _)); refine blk_put (cs := #[.int .u8 t549, .int .i64 t550, .int .i64 0, .int .i64 0, .int .i64 0]) ?_ 2 _ rfl; (with_reducible repeat (first | refine blk_drewN ?_ _ | refine blk_drew ?_ | refine blk_alloc ?_ _)); refine blk_put (cs := #[.int .u8 t549, .int .i64 0, .int .i64 0, .int .i64 0, .int .i64 0]) ?_ 1 _ rfl; (with_reducible repeat (first | refine blk_drewN ?_ _ | refine blk_drew ?_ | refine blk_alloc ?_ _)); refine blk_put (cs := #[.int .u8 0, .int .i64 0, .int .i64 0, .int .i64 0, .int .i64 0]) ?_ 0 _ rfl; (with_reducible repeat (first | refine blk_drewN ?_ _ | refine blk_drew ?_ | refine blk_alloc ?_ _)); exact BK555.out) hb); replace HB := Aside0.mk (below_step (hG_ HB.out GE555.out) hb); (try clear hb); (try clear hb2); (try clear hk); (try clear hi); (try clear hnb81 hnc81 hnb82 hnc82 hcz88_0 hcz88_1 hcz88_2 hcz88_3 hcz88_4 hfz88_0 hfz88_1 hfz88_2 hfz88_3 hfz88_4 hcz89_0 hcz89_1 hcz89_2 hfz89_0 hfz89_1 hfz89_2 hcz90_0 hcz90_1 hcz90_2 hcz90_3 hcz90_4 hfz90_0 hfz90_1 hfz90_2 hfz90_3 hfz90_4)) | ((with_reducible refine gate_dst (N := 21) rfl ?_); refine box_event ?hg (N := 21) ?hd (cs := #[.int .u8 0, .int .i64 0, .int .i64 0, .int .i64 0, .int .i64 0]) (t := 31) ?hr ?_; (case hd => rfl); (case hg => rfl); (case hr => first | (go_simp; done) | (go_simp; rfl)); intro gb562 hg w92 hbox hb; have BK562 := Aside0.mk (hbox); have GW562 := bz_ (hB_ HB.out) hg; have GE562 := bz_ (hB_ HB.out) hg; replace HB := Aside0.mk (below_step (hB_ HB.out) hb); have NB512_562 := bn_ BK512 hg; have NB562_512 := bm_ BK512 hg; replace BK512 := bs_ BK512 hb; have NB513_562 := bn_ BK513 hg; have NB562_513 := bm_ BK513 hg; replace BK513 := bs_ BK513 hb; have NB520_562 := bn_ BK520 hg; have NB562_520 := bm_ BK520 hg; replace BK520 := bs_ BK520 hb; have NB527_562 := bn_ BK527 hg; have NB562_527 := bm_ BK527 hg; replace BK527 := bs_ BK527 hb; have NB534_562 := bn_ BK534 hg; have NB562_534 := bm_ BK534 hg; replace BK534 := bs_ BK534 hb; have NB541_562 := bn_ BK541 hg; have NB562_541 := bm_ BK541 hg; replace BK541 := bs_ BK541 hb; have NB548_562 := bn_ BK548 hg; have NB562_548 := bm_ BK548 hg; replace BK548 := bs_ BK548 hb; have NB555_562 := bn_ BK555 hg; have NB562_555 := bm_ BK555 hg; replace BK555 := bs_ BK555 hb; clear hb hbox hg; (try clear hnb81 hnc81 hnb82 hnc82 hcz88_0 hcz88_1 hcz88_2 hcz88_3 hcz88_4 hfz88_0 hfz88_1 hfz88_2 hfz88_3 hfz88_4 hcz89_0 hcz89_1 hcz89_2 hfz89_0 hfz89_1 hfz89_2 hcz90_0 hcz90_1 hcz90_2 hcz90_3 hcz90_4 hfz90_0 hfz90_1 hfz90_2 hfz90_3 hfz90_4); have hnb93 := NB562_512.out; have hnc93 := NB512_562.out; have hnb94 := NB562_513.out; have hnc94 := NB513_562.out; have hcz101_0 : w92.cell? ⟨gb562, 0, none⟩ = some (.int .u8 0) := ck_ BK562 0; have hcz101_1 : w92.cell? ⟨gb562, 1, none⟩ = some (.int .i64 0) := ck_ BK562 1; have hcz101_2 : w92.cell? ⟨gb562, 2, none⟩ = some (.int .i64 0) := ck_ BK562 2; have hcz101_3 : w92.cell? ⟨gb562, 3, none⟩ = some (.int .i64 0) := ck_ BK562 3; have hcz101_4 : w92.cell? ⟨gb562, 4, none⟩ = some (.int .i64 0) := ck_ BK562 4; have hfz101_0 := blk_frozen BK562.out 0; have hfz101_1 := blk_frozen BK562.out 1; have hfz101_2 := blk_frozen BK562.out 2; have hfz101_3 := blk_frozen BK562.out 3; have hfz101_4 := blk_frozen BK562.out 4; have hcz102_0 : w92.cell? ⟨gb512, 0, none⟩ = some (.slice A0_0 l0_0.length c0_0) := ck_ BK512 0; have hcz102_1 : w92.cell? ⟨gb512, 1, none⟩ = some (.int .i64 a0_1) := ck_ BK512 1; have hcz102_2 : w92.cell? ⟨gb512, 2, none⟩ = some (.int .i64 a0_2) := ck_ BK512 2; have hfz102_0 := blk_frozen BK512.out 0; have hfz102_1 := blk_frozen BK512.out 1; have hfz102_2 := blk_frozen BK512.out 2; have hcz103_0 : w92.cell? ⟨gb513, 0, none⟩ = some (.int .u8 a1_0) := ck_ BK513 0; have hcz103_1 : w92.cell? ⟨gb513, 1, none⟩ = some (.int .i64 a1_1) := ck_ BK513 1; have hcz103_2 : w92.cell? ⟨gb513, 2, none⟩ = some (.int .i64 a1_2) := ck_ BK513 2; have hcz103_3 : w92.cell? ⟨gb513, 3, none⟩ = some (.int .i64 a1_3) := ck_ BK513 3; have hcz103_4 : w92.cell? ⟨gb513, 4, none⟩ = some (.int .i64 a1_4) := ck_ BK513 4; have hfz103_0 := blk_frozen BK513.out 0; have hfz103_1 := blk_frozen BK513.out 1; have hfz103_2 := blk_frozen BK513.out 2; have hfz103_3 := blk_frozen BK513.out 3; have hfz103_4 := blk_frozen BK513.out 4) | ((with_reducible refine gate_callee (f := 23) rfl ?_); refine goesL_ (some 108) rfl rfl Try.func23 (by kernel_rfl) rfl #[.agg #[.slice A0_0 l0_0.length c0_0, .int .i64 a0_1, .int .i64 a0_2], .agg #[.int .u8 a1_0, .int .i64 a1_1, .int .i64 a1_2, .int .i64 a1_3, .int .i64 a1_4], .int .i64 a2, .int .i64 a3] rfl (by (try simp only [List.map_toArray, List.map_cons, List.map_nil]); first | done | rfl | (simp only [List.length_drop, List.length_take]; rfl)) ?_; (with_reducible refine (millhandref24_Fail.calls k _ _ l0_0 a0_1 a0_2 a1_0 a1_1 a1_2 a1_3 a1_4 a2 a3 t563 t564 t565 t566 t567 t568 _ ?side1 ?side2 A17.out).mono ?_); (case side1 => exact Kd.C_below HR0_0.out (by repeat (first | (with_reducible first | exact HB.out | apply below_alloc | apply pw_below_drewN | apply below_drew1 | refine below_set ?_ GE512.out | refine below_set ?_ GE513.out | refine below_set ?_ GE520.out | refine below_set ?_ GE527.out | refine below_set ?_ GE534.out | refine below_set ?_ GE541.out | refine below_set ?_ GE548.out | refine below_set ?_ GE555.out | refine below_set ?_ GE562.out) | exact HB.out))); (case side2 => exact HC0_0.out); rintro e w104 ⟨rfl, hb⟩; refine ⟨_, rfl, ?_⟩; replace BK512 := bF_ BK512 NB512_562.out hb; replace BK513 := bF_ BK513 NB513_562.out hb; replace BK520 := bF_ BK520 NB520_562.out hb; replace BK527 := bF_ BK527 NB527_562.out hb; replace BK534 := bF_ BK534 NB534_562.out hb; replace BK541 := bF_ BK541 NB541_562.out hb; replace BK548 := bF_ BK548 NB548_562.out hb; replace BK555 := bF_ BK555 NB555_562.out hb; replace BK562 := Aside0.mk (blk_below (g := gb562) (o := .cells #[.int .u8 t556, .int .i64 t557, .int .i64 t558, .int .i64 t559, .int .i64 t560] 31 (0, 0)) (by (with_reducible repeat (first | refine blk_drewN ?_ _ | refine blk_drew ?_ | refine blk_alloc ?_ _)); refine blk_put (cs := #[.int .u8 t556, .int .i64 t557, .int .i64 t558, .int .i64 t559, .int .i64 0]) ?_ 4 _ rfl; (with_reducible repeat (first | refine blk_drewN ?_ _ | refine blk_drew ?_ | refine blk_alloc ?_ _)); refine blk_put (cs := #[.int .u8 t556, .int .i64 t557, .int .i64 t558, .int .i64 0, .int .i64 0]) ?_ 3 _ rfl; (with_reducible repeat (first | refine blk_drewN ?_ _ | refine blk_drew ?_ | refine blk_alloc ?_ _)); refine blk_put (cs := #[.int .u8 t556, .int .i64 t557, .int .i64 0, .int .i64 0, .int .i64 0]) ?_ 2 _ rfl; (with_reducible repeat (first | refine blk_drewN ?_ _ | refine blk_drew ?_ | refine blk_alloc ?_ _)); refine blk_put (cs := #[.int .u8 t556, .int .i64 0, .int .i64 0, .int .i64 0, .int .i64 0]) ?_ 1 _ rfl; (with_reducible repeat (first | refine blk_drewN ?_ _ | refine blk_drew ?_ | refine blk_alloc ?_ _)); refine blk_put (cs := #[.int .u8 0, .int .i64 0, .int .i64 0, .int .i64 0, .int .i64 0]) ?_ 0 _ rfl; (with_reducible repeat (first | refine blk_drewN ?_ _ | refine blk_drew ?_ | refine blk_alloc ?_ _)); exact BK562.out) hb); replace HB := Aside0.mk (below_step (hG_ HB.out GE562.out) hb); (try clear hb); (try clear hb2); (try clear hk); (try clear hi); (try clear hnb93 hnc93 hnb94 hnc94 hcz101_0 hcz101_1 hcz101_2 hcz101_3 hcz101_4 hfz101_0 hfz101_1 hfz101_2 hfz101_3 hfz101_4 hcz102_0 hcz102_1 hcz102_2 hfz102_0 hfz102_1 hfz102_2 hcz103_0 hcz103_1 hcz103_2 hcz103_3 hcz103_4 hfz103_0 hfz103_1 hfz103_2 hfz103_3 hfz103_4)) | ((with_reducible refine gate_dst (N := 23) rfl ?_); refine box_event ?hg (N := 23) ?hd (cs := #[.int .u8 0, .int .i64 0, .int .i64 0, .int .i64 0, .int .i64 0]) (t := 31) ?hr ?_; (case hd => rfl); (case hg => rfl); (case hr => first | (go_simp; done) | (go_simp; rfl)); intro gb569 hg w105 hbox hb; have BK569 := Aside0.mk (hbox); have GW569 := bz_ (hB_ HB.out) hg; have GE569 := bz_ (hB_ HB.out) hg; replace HB := Aside0.mk (below_step (hB_ HB.out) hb); have NB512_569 := bn_ BK512 hg; have NB569_512 := bm_ BK512 hg; replace BK512 := bs_ BK512 hb; have NB513_569 := bn_ BK513 hg; have NB569_513 := bm_ BK513 hg; replace BK513 := bs_ BK513 hb; have NB520_569 := bn_ BK520 hg; have NB569_520 := bm_ BK520 hg; replace BK520 := bs_ BK520 hb; have NB527_569 := bn_ BK527 hg; have NB569_527 := bm_ BK527 hg; replace BK527 := bs_ BK527 hb; have NB534_569 := bn_ BK534 hg; have NB569_534 := bm_ BK534 hg; replace BK534 := bs_ BK534 hb; have NB541_569 := bn_ BK541 hg; have NB569_541 := bm_ BK541 hg; replace BK541 := bs_ BK541 hb; have NB548_569 := bn_ BK548 hg; have NB569_548 := bm_ BK548 hg; replace BK548 := bs_ BK548 hb; have NB555_569 := bn_ BK555 hg; have NB569_555 := bm_ BK555 hg; replace BK555 := bs_ BK555 hb; have NB562_569 := bn_ BK562 hg; have NB569_562 := bm_ BK562 hg; replace BK562 := bs_ BK562 hb; clear hb hbox hg; (try clear hnb93 hnc93 hnb94 hnc94 hcz101_0 hcz101_1 hcz101_2 hcz101_3 hcz101_4 hfz101_0 hfz101_1 hfz101_2 hfz101_3 hfz101_4 hcz102_0 hcz102_1 hcz102_2 hfz102_0 hfz102_1 hfz102_2 hcz103_0 hcz103_1 hcz103_2 hcz103_3 hcz103_4 hfz103_0 hfz103_1 hfz103_2 hfz103_3 hfz103_4); have hnb106 := NB569_512.out; have hnc106 := NB512_569.out; have hnb107 := NB569_513.out; have hnc107 := NB513_569.out; have hcz115_0 : w105.cell? ⟨gb569, 0, none⟩ = some (.int .u8 0) := ck_ BK569 0; have hcz115_1 : w105.cell? ⟨gb569, 1, none⟩ = some (.int .i64 0) := ck_ BK569 1; have hcz115_2 : w105.cell? ⟨gb569, 2, none⟩ = some (.int .i64 0) := ck_ BK569 2; have hcz115_3 : w105.cell? ⟨gb569, 3, none⟩ = some (.int .i64 0) := ck_ BK569 3; have hcz115_4 : w105.cell? ⟨gb569, 4, none⟩ = some (.int .i64 0) := ck_ BK569 4; have hfz115_0 := blk_frozen BK569.out 0; have hfz115_1 := blk_frozen BK569.out 1; have hfz115_2 := blk_frozen BK569.out 2; have hfz115_3 := blk_frozen BK569.out 3; have hfz115_4 := blk_frozen BK569.out 4; have hcz116_0 : w105.cell? ⟨gb512, 0, none⟩ = some (.slice A0_0 l0_0.length c0_0) := ck_ BK512 0; have hcz116_1 : w105.cell? ⟨gb512, 1, none⟩ = some (.int .i64 a0_1) := ck_ BK512 1; have hcz116_2 : w105.cell? ⟨gb512, 2, none⟩ = some (.int .i64 a0_2) := ck_ BK512 2; have hfz116_0 := blk_frozen BK512.out 0; have hfz116_1 := blk_frozen BK512.out 1; have hfz116_2 := blk_frozen BK512.out 2; have hcz117_0 : w105.cell? ⟨gb513, 0, none⟩ = some (.int .u8 a1_0) := ck_ BK513 0; have hcz117_1 : w105.cell? ⟨gb513, 1, none⟩ = some (.int .i64 a1_1) := ck_ BK513 1; have hcz117_2 : w105.cell? ⟨gb513, 2, none⟩ = some (.int .i64 a1_2) := ck_ BK513 2; have hcz117_3 : w105.cell? ⟨gb513, 3, none⟩ = some (.int .i64 a1_3) := ck_ BK513 3; have hcz117_4 : w105.cell? ⟨gb513, 4, none⟩ = some (.int .i64 a1_4) := ck_ BK513 4; have hfz117_0 := blk_frozen BK513.out 0; have hfz117_1 := blk_frozen BK513.out 1; have hfz117_2 := blk_frozen BK513.out 2; have hfz117_3 := blk_frozen BK513.out 3; have hfz117_4 := blk_frozen BK513.out 4) | ((with_reducible refine gate_callee (f := 13) rfl ?_); refine goesL_ (some 116) rfl rfl Try.func13 (by kernel_rfl) rfl #[.agg #[.slice A0_0 l0_0.length c0_0, .int .i64 a0_1, .int .i64 a0_2], .agg #[.int .u8 a1_0, .int .i64 a1_1, .int .i64 a1_2, .int .i64 a1_3, .int .i64 a1_4], .int .i64 a2, .int .i64 a3] rfl (by (try simp only [List.map_toArray, List.map_cons, List.map_nil]); first | done | rfl | (simp only [List.length_drop, List.length_take]; rfl)) ?_; (with_reducible refine (task_Beat.calls k _ _ l0_0 a0_1 a0_2 a1_0 a1_1 a1_2 a1_3 a1_4 a2 a3 t570 t571 t572 t573 t574 t575 _ ?side1 ?side2 A18.out).mono ?_); (case side1 => exact Kd.C_below HR0_0.out (by repeat (first | (with_reducible first | exact HB.out | apply below_alloc | apply pw_below_drewN | apply below_drew1 | refine below_set ?_ GE512.out | refine below_set ?_ GE513.out | refine below_set ?_ GE520.out | refine below_set ?_ GE527.out | refine below_set ?_ GE534.out | refine below_set ?_ GE541.out | refine below_set ?_ GE548.out | refine below_set ?_ GE555.out | refine below_set ?_ GE562.out | refine below_set ?_ GE569.out) | exact HB.out))); (case side2 => exact HC0_0.out); rintro e w118 ⟨rfl, hb⟩; refine ⟨_, rfl, ?_⟩; replace BK512 := bF_ BK512 NB512_569.out hb; replace BK513 := bF_ BK513 NB513_569.out hb; replace BK520 := bF_ BK520 NB520_569.out hb; replace BK527 := bF_ BK527 NB527_569.out hb; replace BK534 := bF_ BK534 NB534_569.out hb; replace BK541 := bF_ BK541 NB541_569.out hb; replace BK548 := bF_ BK548 NB548_569.out hb; replace BK555 := bF_ BK555 NB555_569.out hb; replace BK562 := bF_ BK562 NB562_569.out hb; replace BK569 := Aside0.mk (blk_below (g := gb569) (o := .cells #[.int .u8 t563, .int .i64 t564, .int .i64 t565, .int .i64 t566, .int .i64 t567] 31 (0, 0)) (by (with_reducible repeat (first | refine blk_drewN ?_ _ | refine blk_drew ?_ | refine blk_alloc ?_ _)); refine blk_put (cs := #[.int .u8 t563, .int .i64 t564, .int .i64 t565, .int .i64 t566, .int .i64 0]) ?_ 4 _ rfl; (with_reducible repeat (first | refine blk_drewN ?_ _ | refine blk_drew ?_ | refine blk_alloc ?_ _)); refine blk_put (cs := #[.int .u8 t563, .int .i64 t564, .int .i64 t565, .int .i64 0, .int .i64 0]) ?_ 3 _ rfl; (with_reducible repeat (first | refine blk_drewN ?_ _ | refine blk_drew ?_ | refine blk_alloc ?_ _)); refine blk_put (cs := #[.int .u8 t563, .int .i64 t564, .int .i64 0, .int .i64 0, .int .i64 0]) ?_ 2 _ rfl; (with_reducible repeat (first | refine blk_drewN ?_ _ | refine blk_drew ?_ | refine blk_alloc ?_ _)); refine blk_put (cs := #[.int .u8 t563, .int .i64 0, .int .i64 0, .int .i64 0, .int .i64 0]) ?_ 1 _ rfl; (with_reducible repeat (first | refine blk_drewN ?_ _ | refine blk_drew ?_ | refine blk_alloc ?_ _)); refine blk_put (cs := #[.int .u8 0, .int .i64 0, .int .i64 0, .int .i64 0, .int .i64 0]) ?_ 0 _ rfl; (with_reducible repeat (first | refine blk_drewN ?_ _ | refine blk_drew ?_ | refine blk_alloc ?_ _)); exact BK569.out) hb); replace HB := Aside0.mk (below_step (hG_ HB.out GE569.out) hb); (try clear hb); (try clear hb2); (try clear hk); (try clear hi); (try clear hnb106 hnc106 hnb107 hnc107 hcz115_0 hcz115_1 hcz115_2 hcz115_3 hcz115_4 hfz115_0 hfz115_1 hfz115_2 hfz115_3 hfz115_4 hcz116_0 hcz116_1 hcz116_2 hfz116_0 hfz116_1 hfz116_2 hcz117_0 hcz117_1 hcz117_2 hcz117_3 hcz117_4 hfz117_0 hfz117_1 hfz117_2 hfz117_3 hfz117_4)) | ((with_reducible refine gate_dst (N := 25) rfl ?_); refine box_event ?hg (N := 25) ?hd (cs := #[.int .u8 0, .int .i64 0, .int .i64 0, .int .i64 0, .int .i64 0]) (t := 31) ?hr ?_; (case hd => rfl); (case hg => rfl); (case hr => first | (go_simp; done) | (go_simp; rfl)); intro gb576 hg w119 hbox hb; have BK576 := Aside0.mk (hbox); have GW576 := bz_ (hB_ HB.out) hg; have GE576 := bz_ (hB_ HB.out) hg; replace HB := Aside0.mk (below_step (hB_ HB.out) hb); have NB512_576 := bn_ BK512 hg; have NB576_512 := bm_ BK512 hg; replace BK512 := bs_ BK512 hb; have NB513_576 := bn_ BK513 hg; have NB576_513 := bm_ BK513 hg; replace BK513 := bs_ BK513 hb; have NB520_576 := bn_ BK520 hg; have NB576_520 := bm_ BK520 hg; replace BK520 := bs_ BK520 hb; have NB527_576 := bn_ BK527 hg; have NB576_527 := bm_ BK527 hg; replace BK527 := bs_ BK527 hb; have NB534_576 := bn_ BK534 hg; have NB576_534 := bm_ BK534 hg; replace BK534 := bs_ BK534 hb; have NB541_576 := bn_ BK541 hg; have NB576_541 := bm_ BK541 hg; replace BK541 := bs_ BK541 hb; have NB548_576 := bn_ BK548 hg; have NB576_548 := bm_ BK548 hg; replace BK548 := bs_ BK548 hb; have NB555_576 := bn_ BK555 hg; have NB576_555 := bm_ BK555 hg; replace BK555 := bs_ BK555 hb; have NB562_576 := bn_ BK562 hg; have NB576_562 := bm_ BK562 hg; replace BK562 := bs_ BK562 hb; have NB569_576 := bn_ BK569 hg; have NB576_569 := bm_ BK569 hg; replace BK569 := bs_ BK569 hb; clear hb hbox hg; (try clear hnb106 hnc106 hnb107 hnc107 hcz115_0 hcz115_1 hcz115_2 hcz115_3 hcz115_4 hfz115_0 hfz115_1 hfz115_2 hfz115_3 hfz115_4 hcz116_0 hcz116_1 hcz116_2 hfz116_0 hfz116_1 hfz116_2 hcz117_0 hcz117_1 hcz117_2 hcz117_3 hcz117_4 hfz117_0 hfz117_1 hfz117_2 hfz117_3 hfz117_4); have hnb120 := NB576_512.out; have hnc120 := NB512_576.out; have hnb121 := NB576_513.out; have hnc121 := NB513_576.out; have hcz130_0 : w119.cell? ⟨gb576, 0, none⟩ = some (.int .u8 0) := ck_ BK576 0; have hcz130_1 : w119.cell? ⟨gb576, 1, none⟩ = some (.int .i64 0) := ck_ BK576 1; have hcz130_2 : w119.cell? ⟨gb576, 2, none⟩ = some (.int .i64 0) := ck_ BK576 2; have hcz130_3 : w119.cell? ⟨gb576, 3, none⟩ = some (.int .i64 0) := ck_ BK576 3; have hcz130_4 : w119.cell? ⟨gb576, 4, none⟩ = some (.int .i64 0) := ck_ BK576 4; have hfz130_0 := blk_frozen BK576.out 0; have hfz130_1 := blk_frozen BK576.out 1; have hfz130_2 := blk_frozen BK576.out 2; have hfz130_3 := blk_frozen BK576.out 3; have hfz130_4 := blk_frozen BK576.out 4; have hcz131_0 : w119.cell? ⟨gb512, 0, none⟩ = some (.slice A0_0 l0_0.length c0_0) := ck_ BK512 0; have hcz131_1 : w119.cell? ⟨gb512, 1, none⟩ = some (.int .i64 a0_1) := ck_ BK512 1; have hcz131_2 : w119.cell? ⟨gb512, 2, none⟩ = some (.int .i64 a0_2) := ck_ BK512 2; have hfz131_0 := blk_frozen BK512.out 0; have hfz131_1 := blk_frozen BK512.out 1; have hfz131_2 := blk_frozen BK512.out 2; have hcz132_0 : w119.cell? ⟨gb513, 0, none⟩ = some (.int .u8 a1_0) := ck_ BK513 0; have hcz132_1 : w119.cell? ⟨gb513, 1, none⟩ = some (.int .i64 a1_1) := ck_ BK513 1; have hcz132_2 : w119.cell? ⟨gb513, 2, none⟩ = some (.int .i64 a1_2) := ck_ BK513 2; have hcz132_3 : w119.cell? ⟨gb513, 3, none⟩ = some (.int .i64 a1_3) := ck_ BK513 3; have hcz132_4 : w119.cell? ⟨gb513, 4, none⟩ = some (.int .i64 a1_4) := ck_ BK513 4; have hfz132_0 := blk_frozen BK513.out 0; have hfz132_1 := blk_frozen BK513.out 1; have hfz132_2 := blk_frozen BK513.out 2; have hfz132_3 := blk_frozen BK513.out 3; have hfz132_4 := blk_frozen BK513.out 4) | ((with_reducible refine gate_callee (f := 24) rfl ?_); refine goesL_ (some 124) rfl rfl Try.func24 (by kernel_rfl) rfl #[.agg #[.slice A0_0 l0_0.length c0_0, .int .i64 a0_1, .int .i64 a0_2], .agg #[.int .u8 a1_0, .int .i64 a1_1, .int .i64 a1_2, .int .i64 a1_3, .int .i64 a1_4], .int .i64 a2, .int .i64 a3] rfl (by (try simp only [List.map_toArray, List.map_cons, List.map_nil]); first | done | rfl | (simp only [List.length_drop, List.length_take]; rfl)) ?_; (with_reducible refine (millhandref24_Beat.calls k _ _ l0_0 a0_1 a0_2 a1_0 a1_1 a1_2 a1_3 a1_4 a2 a3 t577 t578 t579 t580 t581 t582 _ ?side1 ?side2 A19.out).mono ?_); (case side1 => exact Kd.C_below HR0_0.out (by repeat (first | (with_reducible first | exact HB.out | apply below_alloc | apply pw_below_drewN | apply below_drew1 | refine below_set ?_ GE512.out | refine below_set ?_ GE513.out | refine below_set ?_ GE520.out | refine below_set ?_ GE527.out | refine below_set ?_ GE534.out | refine below_set ?_ GE541.out | refine below_set ?_ GE548.out | refine below_set ?_ GE555.out | refine below_set ?_ GE562.out | refine below_set ?_ GE569.out | refine below_set ?_ GE576.out) | exact HB.out))); (case side2 => exact HC0_0.out); rintro e w133 ⟨rfl, hb⟩; refine ⟨_, rfl, ?_⟩; replace BK512 := bF_ BK512 NB512_576.out hb; replace BK513 := bF_ BK513 NB513_576.out hb; replace BK520 := bF_ BK520 NB520_576.out hb; replace BK527 := bF_ BK527 NB527_576.out hb; replace BK534 := bF_ BK534 NB534_576.out hb; replace BK541 := bF_ BK541 NB541_576.out hb; replace BK548 := bF_ BK548 NB548_576.out hb; replace BK555 := bF_ BK555 NB555_576.out hb; replace BK562 := bF_ BK562 NB562_576.out hb; replace BK569 := bF_ BK569 NB569_576.out hb; replace BK576 := Aside0.mk (blk_below (g := gb576) (o := .cells #[.int .u8 t570, .int .i64 t571, .int .i64 t572, .int .i64 t573, .int .i64 t574] 31 (0, 0)) (by (with_reducible repeat (first | refine blk_drewN ?_ _ | refine blk_drew ?_ | refine blk_alloc ?_ _)); refine blk_put (cs := #[.int .u8 t570, .int .i64 t571, .int .i64 t572, .int .i64 t573, .int .i64 0]) ?_ 4 _ rfl; (with_reducible repeat (first | refine blk_drewN ?_ _ | refine blk_drew ?_ | refine blk_alloc ?_ _)); refine blk_put (cs := #[.int .u8 t570, .int .i64 t571, .int .i64 t572, .int .i64 0, .int .i64 0]) ?_ 3 _ rfl; (with_reducible repeat (first | refine blk_drewN ?_ _ | refine blk_drew ?_ | refine blk_alloc ?_ _)); refine blk_put (cs := #[.int .u8 t570, .int .i64 t571, .int .i64 0, .int .i64 0, .int .i64 0]) ?_ 2 _ rfl; (with_reducible repeat (first | refine blk_drewN ?_ _ | refine blk_drew ?_ | refine blk_alloc ?_ _)); refine blk_put (cs := #[.int .u8 t570, .int .i64 0, .int .i64 0, .int .i64 0, .int .i64 0]) ?_ 1 _ rfl; (with_reducible repeat (first | refine blk_drewN ?_ _ | refine blk_drew ?_ | refine blk_alloc ?_ _)); refine blk_put (cs := #[.int .u8 0, .int .i64 0, .int .i64 0, .int .i64 0, .int .i64 0]) ?_ 0 _ rfl; (with_reducible repeat (first | refine blk_drewN ?_ _ | refine blk_drew ?_ | refine blk_alloc ?_ _)); exact BK576.out) hb); replace HB := Aside0.mk (below_step (hG_ HB.out GE576.out) hb); (try clear hb); (try clear hb2); (try clear hk); (try clear hi); (try clear hnb120 hnc120 hnb121 hnc121 hcz130_0 hcz130_1 hcz130_2 hcz130_3 hcz130_4 hfz130_0 hfz130_1 hfz130_2 hfz130_3 hfz130_4 hcz131_0 hcz131_1 hcz131_2 hfz131_0 hfz131_1 hfz131_2 hcz132_0 hcz132_1 hcz132_2 hcz132_3 hcz132_4 hfz132_0 hfz132_1 hfz132_2 hfz132_3 hfz132_4)) | ((with_reducible refine gate_dst (N := 27) rfl ?_); refine box_event ?hg (N := 27) ?hd (cs := #[.int .u8 0, .int .i64 0, .int .i64 0, .int .i64 0, .int .i64 0]) (t := 31) ?hr ?_; (case hd => rfl); (case hg => rfl); (case hr => first | (go_simp; done) | (go_simp; rfl)); intro gb583 hg w134 hbox hb; have BK583 := Aside0.mk (hbox); have GW583 := bz_ (hB_ HB.out) hg; have GE583 := bz_ (hB_ HB.out) hg; replace HB := Aside0.mk (below_step (hB_ HB.out) hb); have NB512_583 := bn_ BK512 hg; have NB583_512 := bm_ BK512 hg; replace BK512 := bs_ BK512 hb; have NB513_583 := bn_ BK513 hg; have NB583_513 := bm_ BK513 hg; replace BK513 := bs_ BK513 hb; have NB520_583 := bn_ BK520 hg; have NB583_520 := bm_ BK520 hg; replace BK520 := bs_ BK520 hb; have NB527_583 := bn_ BK527 hg; have NB583_527 := bm_ BK527 hg; replace BK527 := bs_ BK527 hb; have NB534_583 := bn_ BK534 hg; have NB583_534 := bm_ BK534 hg; replace BK534 := bs_ BK534 hb; have NB541_583 := bn_ BK541 hg; have NB583_541 := bm_ BK541 hg; replace BK541 := bs_ BK541 hb; have NB548_583 := bn_ BK548 hg; have NB583_548 := bm_ BK548 hg; replace BK548 := bs_ BK548 hb; have NB555_583 := bn_ BK555 hg; have NB583_555 := bm_ BK555 hg; replace BK555 := bs_ BK555 hb; have NB562_583 := bn_ BK562 hg; have NB583_562 := bm_ BK562 hg; replace BK562 := bs_ BK562 hb; have NB569_583 := bn_ BK569 hg; have NB583_569 := bm_ BK569 hg; replace BK569 := bs_ BK569 hb; have NB576_583 := bn_ BK576 hg; have NB583_576 := bm_ BK576 hg; replace BK576 := bs_ BK576 hb; clear hb hbox hg; (try clear hnb120 hnc120 hnb121 hnc121 hcz130_0 hcz130_1 hcz130_2 hcz130_3 hcz130_4 hfz130_0 hfz130_1 hfz130_2 hfz130_3 hfz130_4 hcz131_0 hcz131_1 hcz131_2 hfz131_0 hfz131_1 hfz131_2 hcz132_0 hcz132_1 hcz132_2 hcz132_3 hcz132_4 hfz132_0 hfz132_1 hfz132_2 hfz132_3 hfz132_4); have hnb135 := NB583_512.out; have hnc135 := NB512_583.out; have hnb136 := NB583_513.out; have hnc136 := NB513_583.out; have hcz146_0 : w134.cell? ⟨gb583, 0, none⟩ = some (.int .u8 0) := ck_ BK583 0; have hcz146_1 : w134.cell? ⟨gb583, 1, none⟩ = some (.int .i64 0) := ck_ BK583 1; have hcz146_2 : w134.cell? ⟨gb583, 2, none⟩ = some (.int .i64 0) := ck_ BK583 2; have hcz146_3 : w134.cell? ⟨gb583, 3, none⟩ = some (.int .i64 0) := ck_ BK583 3; have hcz146_4 : w134.cell? ⟨gb583, 4, none⟩ = some (.int .i64 0) := ck_ BK583 4; have hfz146_0 := blk_frozen BK583.out 0; have hfz146_1 := blk_frozen BK583.out 1; have hfz146_2 := blk_frozen BK583.out 2; have hfz146_3 := blk_frozen BK583.out 3; have hfz146_4 := blk_frozen BK583.out 4; have hcz147_0 : w134.cell? ⟨gb512, 0, none⟩ = some (.slice A0_0 l0_0.length c0_0) := ck_ BK512 0; have hcz147_1 : w134.cell? ⟨gb512, 1, none⟩ = some (.int .i64 a0_1) := ck_ BK512 1; have hcz147_2 : w134.cell? ⟨gb512, 2, none⟩ = some (.int .i64 a0_2) := ck_ BK512 2; have hfz147_0 := blk_frozen BK512.out 0; have hfz147_1 := blk_frozen BK512.out 1; have hfz147_2 := blk_frozen BK512.out 2; have hcz148_0 : w134.cell? ⟨gb513, 0, none⟩ = some (.int .u8 a1_0) := ck_ BK513 0; have hcz148_1 : w134.cell? ⟨gb513, 1, none⟩ = some (.int .i64 a1_1) := ck_ BK513 1; have hcz148_2 : w134.cell? ⟨gb513, 2, none⟩ = some (.int .i64 a1_2) := ck_ BK513 2; have hcz148_3 : w134.cell? ⟨gb513, 3, none⟩ = some (.int .i64 a1_3) := ck_ BK513 3; have hcz148_4 : w134.cell? ⟨gb513, 4, none⟩ = some (.int .i64 a1_4) := ck_ BK513 4; have hfz148_0 := blk_frozen BK513.out 0; have hfz148_1 := blk_frozen BK513.out 1; have hfz148_2 := blk_frozen BK513.out 2; have hfz148_3 := blk_frozen BK513.out 3; have hfz148_4 := blk_frozen BK513.out 4) | ((with_reducible refine gate_callee (f := 15) rfl ?_); refine goesL_ (some 132) rfl rfl Try.func15 (by kernel_rfl) rfl #[.agg #[.slice A0_0 l0_0.length c0_0, .int .i64 a0_1, .int .i64 a0_2], .agg #[.int .u8 a1_0, .int .i64 a1_1, .int .i64 a1_2, .int .i64 a1_3, .int .i64 a1_4], .int .i64 a2, .int .i64 a3] rfl (by (try simp only [List.map_toArray, List.map_cons, List.map_nil]); first | done | rfl | (simp only [List.length_drop, List.length_take]; rfl)) ?_; (with_reducible refine (task_Wake.calls k _ _ l0_0 a0_1 a0_2 a1_0 a1_1 a1_2 a1_3 a1_4 a2 a3 t584 t585 t586 t587 t588 t589 _ ?side1 ?side2 A20.out).mono ?_); (case side1 => exact Kd.C_below HR0_0.out (by repeat (first | (with_reducible first | exact HB.out | apply below_alloc | apply pw_below_drewN | apply below_drew1 | refine below_set ?_ GE512.out | refine below_set ?_ GE513.out | refine below_set ?_ GE520.out | refine below_set ?_ GE527.out | refine below_set ?_ GE534.out | refine below_set ?_ GE541.out | refine below_set ?_ GE548.out | refine below_set ?_ GE555.out | refine below_set ?_ GE562.out | refine below_set ?_ GE569.out | refine below_set ?_ GE576.out | refine below_set ?_ GE583.out) | exact HB.out))); (case side2 => exact HC0_0.out); rintro e w149 ⟨rfl, hb⟩; refine ⟨_, rfl, ?_⟩; replace BK512 := bF_ BK512 NB512_583.out hb; replace BK513 := bF_ BK513 NB513_583.out hb; replace BK520 := bF_ BK520 NB520_583.out hb; replace BK527 := bF_ BK527 NB527_583.out hb; replace BK534 := bF_ BK534 NB534_583.out hb; replace BK541 := bF_ BK541 NB541_583.out hb; replace BK548 := bF_ BK548 NB548_583.out hb; replace BK555 := bF_ BK555 NB555_583.out hb; replace BK562 := bF_ BK562 NB562_583.out hb; replace BK569 := bF_ BK569 NB569_583.out hb; replace BK576 := bF_ BK576 NB576_583.out hb; replace BK583 := Aside0.mk (blk_below (g := gb583) (o := .cells #[.int .u8 t577, .int .i64 t578, .int .i64 t579, .int .i64 t580, .int .i64 t581] 31 (0, 0)) (by (with_reducible repeat (first | refine blk_drewN ?_ _ | refine blk_drew ?_ | refine blk_alloc ?_ _)); refine blk_put (cs := #[.int .u8 t577, .int .i64 t578, .int .i64 t579, .int .i64 t580, .int .i64 0]) ?_ 4 _ rfl; (with_reducible repeat (first | refine blk_drewN ?_ _ | refine blk_drew ?_ | refine blk_alloc ?_ _)); refine blk_put (cs := #[.int .u8 t577, .int .i64 t578, .int .i64 t579, .int .i64 0, .int .i64 0]) ?_ 3 _ rfl; (with_reducible repeat (first | refine blk_drewN ?_ _ | refine blk_drew ?_ | refine blk_alloc ?_ _)); refine blk_put (cs := #[.int .u8 t577, .int .i64 t578, .int .i64 0, .int .i64 0, .int .i64 0]) ?_ 2 _ rfl; (with_reducible repeat (first | refine blk_drewN ?_ _ | refine blk_drew ?_ | refine blk_alloc ?_ _)); refine blk_put (cs := #[.int .u8 t577, .int .i64 0, .int .i64 0, .int .i64 0, .int .i64 0]) ?_ 1 _ rfl; (with_reducible repeat (first | refine blk_drewN ?_ _ | refine blk_drew ?_ | refine blk_alloc ?_ _)); refine blk_put (cs := #[.int .u8 0, .int .i64 0, .int .i64 0, .int .i64 0, .int .i64 0]) ?_ 0 _ rfl; (with_reducible repeat (first | refine blk_drewN ?_ _ | refine blk_drew ?_ | refine blk_alloc ?_ _)); exact BK583.out) hb); replace HB := Aside0.mk (below_step (hG_ HB.out GE583.out) hb); (try clear hb); (try clear hb2); (try clear hk); (try clear hi); (try clear hnb135 hnc135 hnb136 hnc136 hcz146_0 hcz146_1 hcz146_2 hcz146_3 hcz146_4 hfz146_0 hfz146_1 hfz146_2 hfz146_3 hfz146_4 hcz147_0 hcz147_1 hcz147_2 hfz147_0 hfz147_1 hfz147_2 hcz148_0 hcz148_1 hcz148_2 hcz148_3 hcz148_4 hfz148_0 hfz148_1 hfz148_2 hfz148_3 hfz148_4)) | ((with_reducible refine gate_dst (N := 29) rfl ?_); refine box_event ?hg (N := 29) ?hd (cs := #[.int .u8 0, .int .i64 0, .int .i64 0, .int .i64 0, .int .i64 0]) (t := 31) ?hr ?_; (case hd => rfl); (case hg => rfl); (case hr => first | (go_simp; done) | (go_simp; rfl)); intro gb590 hg w150 hbox hb; have BK590 := Aside0.mk (hbox); have GW590 := bz_ (hB_ HB.out) hg; have GE590 := bz_ (hB_ HB.out) hg; replace HB := Aside0.mk (below_step (hB_ HB.out) hb); have NB512_590 := bn_ BK512 hg; have NB590_512 := bm_ BK512 hg; replace BK512 := bs_ BK512 hb; have NB513_590 := bn_ BK513 hg; have NB590_513 := bm_ BK513 hg; replace BK513 := bs_ BK513 hb; have NB520_590 := bn_ BK520 hg; have NB590_520 := bm_ BK520 hg; replace BK520 := bs_ BK520 hb; have NB527_590 := bn_ BK527 hg; have NB590_527 := bm_ BK527 hg; replace BK527 := bs_ BK527 hb; have NB534_590 := bn_ BK534 hg; have NB590_534 := bm_ BK534 hg; replace BK534 := bs_ BK534 hb; have NB541_590 := bn_ BK541 hg; have NB590_541 := bm_ BK541 hg; replace BK541 := bs_ BK541 hb; have NB548_590 := bn_ BK548 hg; have NB590_548 := bm_ BK548 hg; replace BK548 := bs_ BK548 hb; have NB555_590 := bn_ BK555 hg; have NB590_555 := bm_ BK555 hg; replace BK555 := bs_ BK555 hb; have NB562_590 := bn_ BK562 hg; have NB590_562 := bm_ BK562 hg; replace BK562 := bs_ BK562 hb; have NB569_590 := bn_ BK569 hg; have NB590_569 := bm_ BK569 hg; replace BK569 := bs_ BK569 hb; have NB576_590 := bn_ BK576 hg; have NB590_576 := bm_ BK576 hg; replace BK576 := bs_ BK576 hb; have NB583_590 := bn_ BK583 hg; have NB590_583 := bm_ BK583 hg; replace BK583 := bs_ BK583 hb; clear hb hbox hg; (try clear hnb135 hnc135 hnb136 hnc136 hcz146_0 hcz146_1 hcz146_2 hcz146_3 hcz146_4 hfz146_0 hfz146_1 hfz146_2 hfz146_3 hfz146_4 hcz147_0 hcz147_1 hcz147_2 hfz147_0 hfz147_1 hfz147_2 hcz148_0 hcz148_1 hcz148_2 hcz148_3 hcz148_4 hfz148_0 hfz148_1 hfz148_2 hfz148_3 hfz148_4); have hnb151 := NB590_512.out; have hnc151 := NB512_590.out; have hnb152 := NB590_513.out; have hnc152 := NB513_590.out; have hcz163_0 : w150.cell? ⟨gb590, 0, none⟩ = some (.int .u8 0) := ck_ BK590 0; have hcz163_1 : w150.cell? ⟨gb590, 1, none⟩ = some (.int .i64 0) := ck_ BK590 1; have hcz163_2 : w150.cell? ⟨gb590, 2, none⟩ = some (.int .i64 0) := ck_ BK590 2; have hcz163_3 : w150.cell? ⟨gb590, 3, none⟩ = some (.int .i64 0) := ck_ BK590 3; have hcz163_4 : w150.cell? ⟨gb590, 4, none⟩ = some (.int .i64 0) := ck_ BK590 4; have hfz163_0 := blk_frozen BK590.out 0; have hfz163_1 := blk_frozen BK590.out 1; have hfz163_2 := blk_frozen BK590.out 2; have hfz163_3 := blk_frozen BK590.out 3; have hfz163_4 := blk_frozen BK590.out 4; have hcz164_0 : w150.cell? ⟨gb512, 0, none⟩ = some (.slice A0_0 l0_0.length c0_0) := ck_ BK512 0; have hcz164_1 : w150.cell? ⟨gb512, 1, none⟩ = some (.int .i64 a0_1) := ck_ BK512 1; have hcz164_2 : w150.cell? ⟨gb512, 2, none⟩ = some (.int .i64 a0_2) := ck_ BK512 2; have hfz164_0 := blk_frozen BK512.out 0; have hfz164_1 := blk_frozen BK512.out 1; have hfz164_2 := blk_frozen BK512.out 2; have hcz165_0 : w150.cell? ⟨gb513, 0, none⟩ = some (.int .u8 a1_0) := ck_ BK513 0; have hcz165_1 : w150.cell? ⟨gb513, 1, none⟩ = some (.int .i64 a1_1) := ck_ BK513 1; have hcz165_2 : w150.cell? ⟨gb513, 2, none⟩ = some (.int .i64 a1_2) := ck_ BK513 2; have hcz165_3 : w150.cell? ⟨gb513, 3, none⟩ = some (.int .i64 a1_3) := ck_ BK513 3; have hcz165_4 : w150.cell? ⟨gb513, 4, none⟩ = some (.int .i64 a1_4) := ck_ BK513 4; have hfz165_0 := blk_frozen BK513.out 0; have hfz165_1 := blk_frozen BK513.out 1; have hfz165_2 := blk_frozen BK513.out 2; have hfz165_3 := blk_frozen BK513.out 3; have hfz165_4 := blk_frozen BK513.out 4) | ((with_reducible refine gate_callee (f := 25) rfl ?_); refine goesL_ (some 140) rfl rfl Try.func25 (by kernel_rfl) rfl #[.agg #[.slice A0_0 l0_0.length c0_0, .int .i64 a0_1, .int .i64 a0_2], .agg #[.int .u8 a1_0, .int .i64 a1_1, .int .i64 a1_2, .int .i64 a1_3, .int .i64 a1_4], .int .i64 a2, .int .i64 a3] rfl (by (try simp only [List.map_toArray, List.map_cons, List.map_nil]); first | done | rfl | (simp only [List.length_drop, List.length_take]; rfl)) ?_; (with_reducible refine (millhandref24_Wake.calls k _ _ l0_0 a0_1 a0_2 a1_0 a1_1 a1_2 a1_3 a1_4 a2 a3 t591 t592 t593 t594 t595 t596 _ ?side1 ?side2 A21.out).mono ?_); (case side1 => exact Kd.C_below HR0_0.out (by repeat (first | (with_reducible first | exact HB.out | apply below_alloc | apply pw_below_drewN | apply below_drew1 | refine below_set ?_ GE512.out | refine below_set ?_ GE513.out | refine below_set ?_ GE520.out | refine below_set ?_ GE527.out | refine below_set ?_ GE534.out | refine below_set ?_ GE541.out | refine below_set ?_ GE548.out | refine below_set ?_ GE555.out | refine below_set ?_ GE562.out | refine below_set ?_ GE569.out | refine below_set ?_ GE576.out | refine below_set ?_ GE583.out | refine below_set ?_ GE590.out) | exact HB.out))); (case side2 => exact HC0_0.out); rintro e w166 ⟨rfl, hb⟩; refine ⟨_, rfl, ?_⟩; replace BK512 := bF_ BK512 NB512_590.out hb; replace BK513 := bF_ BK513 NB513_590.out hb; replace BK520 := bF_ BK520 NB520_590.out hb; replace BK527 := bF_ BK527 NB527_590.out hb; replace BK534 := bF_ BK534 NB534_590.out hb; replace BK541 := bF_ BK541 NB541_590.out hb; replace BK548 := bF_ BK548 NB548_590.out hb; replace BK555 := bF_ BK555 NB555_590.out hb; replace BK562 := bF_ BK562 NB562_590.out hb; replace BK569 := bF_ BK569 NB569_590.out hb; replace BK576 := bF_ BK576 NB576_590.out hb; replace BK583 := bF_ BK583 NB583_590.out hb; replace BK590 := Aside0.mk (blk_below (g := gb590) (o := .cells #[.int .u8 t584, .int .i64 t585, .int .i64 t586, .int .i64 t587, .int .i64 t588] 31 (0, 0)) (by (with_reducible repeat (first | refine blk_drewN ?_ _ | refine blk_drew ?_ | refine blk_alloc ?_ _)); refine blk_put (cs := #[.int .u8 t584, .int .i64 t585, .int .i64 t586, .int .i64 t587, .int .i64 0]) ?_ 4 _ rfl; (with_reducible repeat (first | refine blk_drewN ?_ _ | refine blk_drew ?_ | refine blk_alloc ?_ _)); refine blk_put (cs := #[.int .u8 t584, .int .i64 t585, .int .i64 t586, .int .i64 0, .int .i64 0]) ?_ 3 _ rfl; (with_reducible repeat (first | refine blk_drewN ?_ _ | refine blk_drew ?_ | refine blk_alloc ?_ _)); refine blk_put (cs := #[.int .u8 t584, .int .i64 t585, .int .i64 0, .int .i64 0, .int .i64 0]) ?_ 2 _ rfl; (with_reducible repeat (first | refine blk_drewN ?_ _ | refine blk_drew ?_ | refine blk_alloc ?_ _)); refine blk_put (cs := #[.int .u8 t584, .int .i64 0, .int .i64 0, .int .i64 0, .int .i64 0]) ?_ 1 _ rfl; (with_reducible repeat (first | refine blk_drewN ?_ _ | refine blk_drew ?_ | refine blk_alloc ?_ _)); refine blk_put (cs := #[.int .u8 0, .int .i64 0, .int .i64 0, .int .i64 0, .int .i64 0]) ?_ 0 _ rfl; (with_reducible repeat (first | refine blk_drewN ?_ _ | refine blk_drew ?_ | refine blk_alloc ?_ _)); exact BK590.out) hb); replace HB := Aside0.mk (below_step (hG_ HB.out GE590.out) hb); (try clear hb); (try clear hb2); (try clear hk); (try clear hi); (try clear hnb151 hnc151 hnb152 hnc152 hcz163_0 hcz163_1 hcz163_2 hcz163_3 hcz163_4 hfz163_0 hfz163_1 hfz163_2 hfz163_3 hfz163_4 hcz164_0 hcz164_1 hcz164_2 hfz164_0 hfz164_1 hfz164_2 hcz165_0 hcz165_1 hcz165_2 hcz165_3 hcz165_4 hfz165_0 hfz165_1 hfz165_2 hfz165_3 hfz165_4)) | ((with_reducible refine gate_dst (N := 31) rfl ?_); refine box_event ?hg (N := 31) ?hd (cs := #[.int .u8 0, .int .i64 0, .int .i64 0, .int .i64 0, .int .i64 0]) (t := 31) ?hr ?_; (case hd => rfl); (case hg => rfl); (case hr => first | (go_simp; done) | (go_simp; rfl)); intro gb597 hg w167 hbox hb; have BK597 := Aside0.mk (hbox); have GW597 := bz_ (hB_ HB.out) hg; have GE597 := bz_ (hB_ HB.out) hg; replace HB := Aside0.mk (below_step (hB_ HB.out) hb); have NB512_597 := bn_ BK512 hg; have NB597_512 := bm_ BK512 hg; replace BK512 := bs_ BK512 hb; have NB513_597 := bn_ BK513 hg; have NB597_513 := bm_ BK513 hg; replace BK513 := bs_ BK513 hb; have NB520_597 := bn_ BK520 hg; have NB597_520 := bm_ BK520 hg; replace BK520 := bs_ BK520 hb; have NB527_597 := bn_ BK527 hg; have NB597_527 := bm_ BK527 hg; replace BK527 := bs_ BK527 hb; have NB534_597 := bn_ BK534 hg; have NB597_534 := bm_ BK534 hg; replace BK534 := bs_ BK534 hb; have NB541_597 := bn_ BK541 hg; have NB597_541 := bm_ BK541 hg; replace BK541 := bs_ BK541 hb; have NB548_597 := bn_ BK548 hg; have NB597_548 := bm_ BK548 hg; replace BK548 := bs_ BK548 hb; have NB555_597 := bn_ BK555 hg; have NB597_555 := bm_ BK555 hg; replace BK555 := bs_ BK555 hb; have NB562_597 := bn_ BK562 hg; have NB597_562 := bm_ BK562 hg; replace BK562 := bs_ BK562 hb; have NB569_597 := bn_ BK569 hg; have NB597_569 := bm_ BK569 hg; replace BK569 := bs_ BK569 hb; have NB576_597 := bn_ BK576 hg; have NB597_576 := bm_ BK576 hg; replace BK576 := bs_ BK576 hb; have NB583_597 := bn_ BK583 hg; have NB597_583 := bm_ BK583 hg; replace BK583 := bs_ BK583 hb; have NB590_597 := bn_ BK590 hg; have NB597_590 := bm_ BK590 hg; replace BK590 := bs_ BK590 hb; clear hb hbox hg; (try clear hnb151 hnc151 hnb152 hnc152 hcz163_0 hcz163_1 hcz163_2 hcz163_3 hcz163_4 hfz163_0 hfz163_1 hfz163_2 hfz163_3 hfz163_4 hcz164_0 hcz164_1 hcz164_2 hfz164_0 hfz164_1 hfz164_2 hcz165_0 hcz165_1 hcz165_2 hcz165_3 hcz165_4 hfz165_0 hfz165_1 hfz165_2 hfz165_3 hfz165_4); have hnb168 := NB597_512.out; have hnc168 := NB512_597.out; have hnb169 := NB597_513.out; have hnc169 := NB513_597.out; have hcz181_0 : w167.cell? ⟨gb597, 0, none⟩ = some (.int .u8 0) := ck_ BK597 0; have hcz181_1 : w167.cell? ⟨gb597, 1, none⟩ = some (.int .i64 0) := ck_ BK597 1; have hcz181_2 : w167.cell? ⟨gb597, 2, none⟩ = some (.int .i64 0) := ck_ BK597 2; have hcz181_3 : w167.cell? ⟨gb597, 3, none⟩ = some (.int .i64 0) := ck_ BK597 3; have hcz181_4 : w167.cell? ⟨gb597, 4, none⟩ = some (.int .i64 0) := ck_ BK597 4; have hfz181_0 := blk_frozen BK597.out 0; have hfz181_1 := blk_frozen BK597.out 1; have hfz181_2 := blk_frozen BK597.out 2; have hfz181_3 := blk_frozen BK597.out 3; have hfz181_4 := blk_frozen BK597.out 4; have hcz182_0 : w167.cell? ⟨gb512, 0, none⟩ = some (.slice A0_0 l0_0.length c0_0) := ck_ BK512 0; have hcz182_1 : w167.cell? ⟨gb512, 1, none⟩ = some (.int .i64 a0_1) := ck_ BK512 1; have hcz182_2 : w167.cell? ⟨gb512, 2, none⟩ = some (.int .i64 a0_2) := ck_ BK512 2; have hfz182_0 := blk_frozen BK512.out 0; have hfz182_1 := blk_frozen BK512.out 1; have hfz182_2 := blk_frozen BK512.out 2; have hcz183_0 : w167.cell? ⟨gb513, 0, none⟩ = some (.int .u8 a1_0) := ck_ BK513 0; have hcz183_1 : w167.cell? ⟨gb513, 1, none⟩ = some (.int .i64 a1_1) := ck_ BK513 1; have hcz183_2 : w167.cell? ⟨gb513, 2, none⟩ = some (.int .i64 a1_2) := ck_ BK513 2; have hcz183_3 : w167.cell? ⟨gb513, 3, none⟩ = some (.int .i64 a1_3) := ck_ BK513 3; have hcz183_4 : w167.cell? ⟨gb513, 4, none⟩ = some (.int .i64 a1_4) := ck_ BK513 4; have hfz183_0 := blk_frozen BK513.out 0; have hfz183_1 := blk_frozen BK513.out 1; have hfz183_2 := blk_frozen BK513.out 2; have hfz183_3 := blk_frozen BK513.out 3; have hfz183_4 := blk_frozen BK513.out 4) | ((with_reducible refine gate_callee (f := 14) rfl ?_); refine goesL_ (some 147) rfl rfl Try.func14 (by kernel_rfl) rfl #[.agg #[.slice A0_0 l0_0.length c0_0, .int .i64 a0_1, .int .i64 a0_2], .agg #[.int .u8 a1_0, .int .i64 a1_1, .int .i64 a1_2, .int .i64 a1_3, .int .i64 a1_4], .int .i64 a3] rfl (by (try simp only [List.map_toArray, List.map_cons, List.map_nil]); first | done | rfl | (simp only [List.length_drop, List.length_take]; rfl)) ?_; (with_reducible refine (task_Lapse.calls k _ _ l0_0 a0_1 a0_2 a1_0 a1_1 a1_2 a1_3 a1_4 a3 t598 t599 t600 t601 t602 t603 _ ?side1 ?side2 A22.out).mono ?_); (case side1 => exact Kd.C_below HR0_0.out (by repeat (first | (with_reducible first | exact HB.out | apply below_alloc | apply pw_below_drewN | apply below_drew1 | refine below_set ?_ GE512.out | refine below_set ?_ GE513.out | refine below_set ?_ GE520.out | refine below_set ?_ GE527.out | refine below_set ?_ GE534.out | refine below_set ?_ GE541.out | refine below_set ?_ GE548.out | refine below_set ?_ GE555.out | refine below_set ?_ GE562.out | refine below_set ?_ GE569.out | refine below_set ?_ GE576.out | refine below_set ?_ GE583.out | refine below_set ?_ GE590.out | refine below_set ?_ GE597.out) | exact HB.out))); (case side2 => exact HC0_0.out); rintro e w184 ⟨rfl, hb⟩; refine ⟨_, rfl, ?_⟩; replace BK512 := bF_ BK512 NB512_597.out hb; replace BK513 := bF_ BK513 NB513_597.out hb; replace BK520 := bF_ BK520 NB520_597.out hb; replace BK527 := bF_ BK527 NB527_597.out hb; replace BK534 := bF_ BK534 NB534_597.out hb; replace BK541 := bF_ BK541 NB541_597.out hb; replace BK548 := bF_ BK548 NB548_597.out hb; replace BK555 := bF_ BK555 NB555_597.out hb; replace BK562 := bF_ BK562 NB562_597.out hb; replace BK569 := bF_ BK569 NB569_597.out hb; replace BK576 := bF_ BK576 NB576_597.out hb; replace BK583 := bF_ BK583 NB583_597.out hb; replace BK590 := bF_ BK590 NB590_597.out hb; replace BK597 := Aside0.mk (blk_below (g := gb597) (o := .cells #[.int .u8 t591, .int .i64 t592, .int .i64 t593, .int .i64 t594, .int .i64 t595] 31 (0, 0)) (by (with_reducible repeat (first | refine blk_drewN ?_ _ | refine blk_drew ?_ | refine blk_alloc ?_ _)); refine blk_put (cs := #[.int .u8 t591, .int .i64 t592, .int .i64 t593, .int .i64 t594, .int .i64 0]) ?_ 4 _ rfl; (with_reducible repeat (first | refine blk_drewN ?_ _ | refine blk_drew ?_ | refine blk_alloc ?_ _)); refine blk_put (cs := #[.int .u8 t591, .int .i64 t592, .int .i64 t593, .int .i64 0, .int .i64 0]) ?_ 3 _ rfl; (with_reducible repeat (first | refine blk_drewN ?_ _ | refine blk_drew ?_ | refine blk_alloc ?_ _)); refine blk_put (cs := #[.int .u8 t591, .int .i64 t592, .int .i64 0, .int .i64 0, .int .i64 0]) ?_ 2 _ rfl; (with_reducible repeat (first | refine blk_drewN ?_ _ | refine blk_drew ?_ | refine blk_alloc ?_ _)); refine blk_put (cs := #[.int .u8 t591, .int .i64 0, .int .i64 0, .int .i64 0, .int .i64 0]) ?_ 1 _ rfl; (with_reducible repeat (first | refine blk_drewN ?_ _ | refine blk_drew ?_ | refine blk_alloc ?_ _)); refine blk_put (cs := #[.int .u8 0, .int .i64 0, .int .i64 0, .int .i64 0, .int .i64 0]) ?_ 0 _ rfl; (with_reducible repeat (first | refine blk_drewN ?_ _ | refine blk_drew ?_ | refine blk_alloc ?_ _)); exact BK597.out) hb); replace HB := Aside0.mk (below_step (hG_ HB.out GE597.out) hb); (try clear hb); (try clear hb2); (try clear hk); (try clear hi); (try clear hnb168 hnc168 hnb169 hnc169 hcz181_0 hcz181_1 hcz181_2 hcz181_3 hcz181_4 hfz181_0 hfz181_1 hfz181_2 hfz181_3 hfz181_4 hcz182_0 hcz182_1 hcz182_2 hfz182_0 hfz182_1 hfz182_2 hcz183_0 hcz183_1 hcz183_2 hcz183_3 hcz183_4 hfz183_0 hfz183_1 hfz183_2 hfz183_3 hfz183_4)) | ((with_reducible refine gate_dst (N := 33) rfl ?_); refine box_event ?hg (N := 33) ?hd (cs := #[.int .u8 0, .int .i64 0, .int .i64 0, .int .i64 0, .int .i64 0]) (t := 31) ?hr ?_; (case hd => rfl); (case hg => rfl); (case hr => first | (go_simp; done) | (go_simp; rfl)); intro gb604 hg w185 hbox hb; have BK604 := Aside0.mk (hbox); have GW604 := bz_ (hB_ HB.out) hg; have GE604 := bz_ (hB_ HB.out) hg; replace HB := Aside0.mk (below_step (hB_ HB.out) hb); have NB512_604 := bn_ BK512 hg; have NB604_512 := bm_ BK512 hg; replace BK512 := bs_ BK512 hb; have NB513_604 := bn_ BK513 hg; have NB604_513 := bm_ BK513 hg; replace BK513 := bs_ BK513 hb; have NB520_604 := bn_ BK520 hg; have NB604_520 := bm_ BK520 hg; replace BK520 := bs_ BK520 hb; have NB527_604 := bn_ BK527 hg; have NB604_527 := bm_ BK527 hg; replace BK527 := bs_ BK527 hb; have NB534_604 := bn_ BK534 hg; have NB604_534 := bm_ BK534 hg; replace BK534 := bs_ BK534 hb; have NB541_604 := bn_ BK541 hg; have NB604_541 := bm_ BK541 hg; replace BK541 := bs_ BK541 hb; have NB548_604 := bn_ BK548 hg; have NB604_548 := bm_ BK548 hg; replace BK548 := bs_ BK548 hb; have NB555_604 := bn_ BK555 hg; have NB604_555 := bm_ BK555 hg; replace BK555 := bs_ BK555 hb; have NB562_604 := bn_ BK562 hg; have NB604_562 := bm_ BK562 hg; replace BK562 := bs_ BK562 hb; have NB569_604 := bn_ BK569 hg; have NB604_569 := bm_ BK569 hg; replace BK569 := bs_ BK569 hb; have NB576_604 := bn_ BK576 hg; have NB604_576 := bm_ BK576 hg; replace BK576 := bs_ BK576 hb; have NB583_604 := bn_ BK583 hg; have NB604_583 := bm_ BK583 hg; replace BK583 := bs_ BK583 hb; have NB590_604 := bn_ BK590 hg; have NB604_590 := bm_ BK590 hg; replace BK590 := bs_ BK590 hb; have NB597_604 := bn_ BK597 hg; have NB604_597 := bm_ BK597 hg; replace BK597 := bs_ BK597 hb; clear hb hbox hg; (try clear hnb168 hnc168 hnb169 hnc169 hcz181_0 hcz181_1 hcz181_2 hcz181_3 hcz181_4 hfz181_0 hfz181_1 hfz181_2 hfz181_3 hfz181_4 hcz182_0 hcz182_1 hcz182_2 hfz182_0 hfz182_1 hfz182_2 hcz183_0 hcz183_1 hcz183_2 hcz183_3 hcz183_4 hfz183_0 hfz183_1 hfz183_2 hfz183_3 hfz183_4); have hnb186 := NB604_512.out; have hnc186 := NB512_604.out; have hnb187 := NB604_513.out; have hnc187 := NB513_604.out; have hcz200_0 : w185.cell? ⟨gb604, 0, none⟩ = some (.int .u8 0) := ck_ BK604 0; have hcz200_1 : w185.cell? ⟨gb604, 1, none⟩ = some (.int .i64 0) := ck_ BK604 1; have hcz200_2 : w185.cell? ⟨gb604, 2, none⟩ = some (.int .i64 0) := ck_ BK604 2; have hcz200_3 : w185.cell? ⟨gb604, 3, none⟩ = some (.int .i64 0) := ck_ BK604 3; have hcz200_4 : w185.cell? ⟨gb604, 4, none⟩ = some (.int .i64 0) := ck_ BK604 4; have hfz200_0 := blk_frozen BK604.out 0; have hfz200_1 := blk_frozen BK604.out 1; have hfz200_2 := blk_frozen BK604.out 2; have hfz200_3 := blk_frozen BK604.out 3; have hfz200_4 := blk_frozen BK604.out 4; have hcz201_0 : w185.cell? ⟨gb512, 0, none⟩ = some (.slice A0_0 l0_0.length c0_0) := ck_ BK512 0; have hcz201_1 : w185.cell? ⟨gb512, 1, none⟩ = some (.int .i64 a0_1) := ck_ BK512 1; have hcz201_2 : w185.cell? ⟨gb512, 2, none⟩ = some (.int .i64 a0_2) := ck_ BK512 2; have hfz201_0 := blk_frozen BK512.out 0; have hfz201_1 := blk_frozen BK512.out 1; have hfz201_2 := blk_frozen BK512.out 2; have hcz202_0 : w185.cell? ⟨gb513, 0, none⟩ = some (.int .u8 a1_0) := ck_ BK513 0; have hcz202_1 : w185.cell? ⟨gb513, 1, none⟩ = some (.int .i64 a1_1) := ck_ BK513 1; have hcz202_2 : w185.cell? ⟨gb513, 2, none⟩ = some (.int .i64 a1_2) := ck_ BK513 2; have hcz202_3 : w185.cell? ⟨gb513, 3, none⟩ = some (.int .i64 a1_3) := ck_ BK513 3; have hcz202_4 : w185.cell? ⟨gb513, 4, none⟩ = some (.int .i64 a1_4) := ck_ BK513 4; have hfz202_0 := blk_frozen BK513.out 0; have hfz202_1 := blk_frozen BK513.out 1; have hfz202_2 := blk_frozen BK513.out 2; have hfz202_3 := blk_frozen BK513.out 3; have hfz202_4 := blk_frozen BK513.out 4) | ((with_reducible refine gate_callee (f := 26) rfl ?_); refine goesL_ (some 154) rfl rfl Try.func26 (by kernel_rfl) rfl #[.agg #[.slice A0_0 l0_0.length c0_0, .int .i64 a0_1, .int .i64 a0_2], .agg #[.int .u8 a1_0, .int .i64 a1_1, .int .i64 a1_2, .int .i64 a1_3, .int .i64 a1_4], .int .i64 a3] rfl (by (try simp only [List.map_toArray, List.map_cons, List.map_nil]); first | done | rfl | (simp only [List.length_drop, List.length_take]; rfl)) ?_; (with_reducible refine (millhandref24_Lapse.calls k _ _ l0_0 a0_1 a0_2 a1_0 a1_1 a1_2 a1_3 a1_4 a3 t605 t606 t607 t608 t609 t610 _ ?side1 ?side2 A23.out).mono ?_); (case side1 => exact Kd.C_below HR0_0.out (by repeat (first | (with_reducible first | exact HB.out | apply below_alloc | apply pw_below_drewN | apply below_drew1 | refine below_set ?_ GE512.out | refine below_set ?_ GE513.out | refine below_set ?_ GE520.out | refine below_set ?_ GE527.out | refine below_set ?_ GE534.out | refine below_set ?_ GE541.out | refine below_set ?_ GE548.out | refine below_set ?_ GE555.out | refine below_set ?_ GE562.out | refine below_set ?_ GE569.out | refine below_set ?_ GE576.out | refine below_set ?_ GE583.out | refine below_set ?_ GE590.out | refine below_set ?_ GE597.out | refine below_set ?_ GE604.out) | exact HB.out))); (case side2 => exact HC0_0.out); rintro e w203 ⟨rfl, hb⟩; refine ⟨_, rfl, ?_⟩; replace BK512 := bF_ BK512 NB512_604.out hb; replace BK513 := bF_ BK513 NB513_604.out hb; replace BK520 := bF_ BK520 NB520_604.out hb; replace BK527 := bF_ BK527 NB527_604.out hb; replace BK534 := bF_ BK534 NB534_604.out hb; replace BK541 := bF_ BK541 NB541_604.out hb; replace BK548 := bF_ BK548 NB548_604.out hb; replace BK555 := bF_ BK555 NB555_604.out hb; replace BK562 := bF_ BK562 NB562_604.out hb; replace BK569 := bF_ BK569 NB569_604.out hb; replace BK576 := bF_ BK576 NB576_604.out hb; replace BK583 := bF_ BK583 NB583_604.out hb; replace BK590 := bF_ BK590 NB590_604.out hb; replace BK597 := bF_ BK597 NB597_604.out hb; replace BK604 := Aside0.mk (blk_below (g := gb604) (o := .cells #[.int .u8 t598, .int .i64 t599, .int .i64 t600, .int .i64 t601, .int .i64 t602] 31 (0, 0)) (by (with_reducible repeat (first | refine blk_drewN ?_ _ | refine blk_drew ?_ | refine blk_alloc ?_ _)); refine blk_put (cs := #[.int .u8 t598, .int .i64 t599, .int .i64 t600, .int .i64 t601, .int .i64 0]) ?_ 4 _ rfl; (with_reducible repeat (first | refine blk_drewN ?_ _ | refine blk_drew ?_ | refine blk_alloc ?_ _)); refine blk_put (cs := #[.int .u8 t598, .int .i64 t599, .int .i64 t600, .int .i64 0, .int .i64 0]) ?_ 3 _ rfl; (with_reducible repeat (first | refine blk_drewN ?_ _ | refine blk_drew ?_ | refine blk_alloc ?_ _)); refine blk_put (cs := #[.int .u8 t598, .int .i64 t599, .int .i64 0, .int .i64 0, .int .i64 0]) ?_ 2 _ rfl; (with_reducible repeat (first | refine blk_drewN ?_ _ | refine blk_drew ?_ | refine blk_alloc ?_ _)); refine blk_put (cs := #[.int .u8 t598, .int .i64 0, .int .i64 0, .int .i64 0, .int .i64 0]) ?_ 1 _ rfl; (with_reducible repeat (first | refine blk_drewN ?_ _ | refine blk_drew ?_ | refine blk_alloc ?_ _)); refine blk_put (cs := #[.int .u8 0, .int .i64 0, .int .i64 0, .int .i64 0, .int .i64 0]) ?_ 0 _ rfl; (with_reducible repeat (first | refine blk_drewN ?_ _ | refine blk_drew ?_ | refine blk_alloc ?_ _)); exact BK604.out) hb); replace HB := Aside0.mk (below_step (hG_ HB.out GE604.out) hb); (try clear hb); (try clear hb2); (try clear hk); (try clear hi); (try clear hnb186 hnc186 hnb187 hnc187 hcz200_0 hcz200_1 hcz200_2 hcz200_3 hcz200_4 hfz200_0 hfz200_1 hfz200_2 hfz200_3 hfz200_4 hcz201_0 hcz201_1 hcz201_2 hfz201_0 hfz201_1 hfz201_2 hcz202_0 hcz202_1 hcz202_2 hcz202_3 hcz202_4 hfz202_0 hfz202_1 hfz202_2 hfz202_3 hfz202_4)) | ((with_reducible refine gate_dst (N := 35) rfl ?_); refine box_event ?hg (N := 35) ?hd (cs := #[.int .u8 0, .int .i64 0, .int .i64 0, .int .i64 0, .int .i64 0]) (t := 31) ?hr ?_; (case hd => rfl); (case hg => rfl); (case hr => first | (go_simp; done) | (go_simp; rfl)); intro gb611 hg w204 hbox hb; have BK611 := Aside0.mk (hbox); have GW611 := bz_ (hB_ HB.out) hg; have GE611 := bz_ (hB_ HB.out) hg; replace HB := Aside0.mk (below_step (hB_ HB.out) hb); have NB512_611 := bn_ BK512 hg; have NB611_512 := bm_ BK512 hg; replace BK512 := bs_ BK512 hb; have NB513_611 := bn_ BK513 hg; have NB611_513 := bm_ BK513 hg; replace BK513 := bs_ BK513 hb; have NB520_611 := bn_ BK520 hg; have NB611_520 := bm_ BK520 hg; replace BK520 := bs_ BK520 hb; have NB527_611 := bn_ BK527 hg; have NB611_527 := bm_ BK527 hg; replace BK527 := bs_ BK527 hb; have NB534_611 := bn_ BK534 hg; have NB611_534 := bm_ BK534 hg; replace BK534 := bs_ BK534 hb; have NB541_611 := bn_ BK541 hg; have NB611_541 := bm_ BK541 hg; replace BK541 := bs_ BK541 hb; have NB548_611 := bn_ BK548 hg; have NB611_548 := bm_ BK548 hg; replace BK548 := bs_ BK548 hb; have NB555_611 := bn_ BK555 hg; have NB611_555 := bm_ BK555 hg; replace BK555 := bs_ BK555 hb; have NB562_611 := bn_ BK562 hg; have NB611_562 := bm_ BK562 hg; replace BK562 := bs_ BK562 hb; have NB569_611 := bn_ BK569 hg; have NB611_569 := bm_ BK569 hg; replace BK569 := bs_ BK569 hb; have NB576_611 := bn_ BK576 hg; have NB611_576 := bm_ BK576 hg; replace BK576 := bs_ BK576 hb; have NB583_611 := bn_ BK583 hg; have NB611_583 := bm_ BK583 hg; replace BK583 := bs_ BK583 hb; have NB590_611 := bn_ BK590 hg; have NB611_590 := bm_ BK590 hg; replace BK590 := bs_ BK590 hb; have NB597_611 := bn_ BK597 hg; have NB611_597 := bm_ BK597 hg; replace BK597 := bs_ BK597 hb; have NB604_611 := bn_ BK604 hg; have NB611_604 := bm_ BK604 hg; replace BK604 := bs_ BK604 hb; clear hb hbox hg; (try clear hnb186 hnc186 hnb187 hnc187 hcz200_0 hcz200_1 hcz200_2 hcz200_3 hcz200_4 hfz200_0 hfz200_1 hfz200_2 hfz200_3 hfz200_4 hcz201_0 hcz201_1 hcz201_2 hfz201_0 hfz201_1 hfz201_2 hcz202_0 hcz202_1 hcz202_2 hcz202_3 hcz202_4 hfz202_0 hfz202_1 hfz202_2 hfz202_3 hfz202_4); have hnb205 := NB611_512.out; have hnc205 := NB512_611.out; have hnb206 := NB611_513.out; have hnc206 := NB513_611.out; have hcz220_0 : w204.cell? ⟨gb611, 0, none⟩ = some (.int .u8 0) := ck_ BK611 0; have hcz220_1 : w204.cell? ⟨gb611, 1, none⟩ = some (.int .i64 0) := ck_ BK611 1; have hcz220_2 : w204.cell? ⟨gb611, 2, none⟩ = some (.int .i64 0) := ck_ BK611 2; have hcz220_3 : w204.cell? ⟨gb611, 3, none⟩ = some (.int .i64 0) := ck_ BK611 3; have hcz220_4 : w204.cell? ⟨gb611, 4, none⟩ = some (.int .i64 0) := ck_ BK611 4; have hfz220_0 := blk_frozen BK611.out 0; have hfz220_1 := blk_frozen BK611.out 1; have hfz220_2 := blk_frozen BK611.out 2; have hfz220_3 := blk_frozen BK611.out 3; have hfz220_4 := blk_frozen BK611.out 4; have hcz221_0 : w204.cell? ⟨gb512, 0, none⟩ = some (.slice A0_0 l0_0.length c0_0) := ck_ BK512 0; have hcz221_1 : w204.cell? ⟨gb512, 1, none⟩ = some (.int .i64 a0_1) := ck_ BK512 1; have hcz221_2 : w204.cell? ⟨gb512, 2, none⟩ = some (.int .i64 a0_2) := ck_ BK512 2; have hfz221_0 := blk_frozen BK512.out 0; have hfz221_1 := blk_frozen BK512.out 1; have hfz221_2 := blk_frozen BK512.out 2; have hcz222_0 : w204.cell? ⟨gb513, 0, none⟩ = some (.int .u8 a1_0) := ck_ BK513 0; have hcz222_1 : w204.cell? ⟨gb513, 1, none⟩ = some (.int .i64 a1_1) := ck_ BK513 1; have hcz222_2 : w204.cell? ⟨gb513, 2, none⟩ = some (.int .i64 a1_2) := ck_ BK513 2; have hcz222_3 : w204.cell? ⟨gb513, 3, none⟩ = some (.int .i64 a1_3) := ck_ BK513 3; have hcz222_4 : w204.cell? ⟨gb513, 4, none⟩ = some (.int .i64 a1_4) := ck_ BK513 4; have hfz222_0 := blk_frozen BK513.out 0; have hfz222_1 := blk_frozen BK513.out 1; have hfz222_2 := blk_frozen BK513.out 2; have hfz222_3 := blk_frozen BK513.out 3; have hfz222_4 := blk_frozen BK513.out 4) | ((with_reducible refine gate_callee (f := 16) rfl ?_); refine goesL_ (some 160) rfl rfl Try.func16 (by kernel_rfl) rfl #[.agg #[.slice A0_0 l0_0.length c0_0, .int .i64 a0_1, .int .i64 a0_2], .agg #[.int .u8 a1_0, .int .i64 a1_1, .int .i64 a1_2, .int .i64 a1_3, .int .i64 a1_4]] rfl (by (try simp only [List.map_toArray, List.map_cons, List.map_nil]); first | done | rfl | (simp only [List.length_drop, List.length_take]; rfl)) ?_; (with_reducible refine (task_Drop.calls k _ _ l0_0 a0_1 a0_2 a1_0 a1_1 a1_2 a1_3 a1_4 t612 t613 t614 t615 t616 t617 _ ?side1 ?side2 A24.out).mono ?_); (case side1 => exact Kd.C_below HR0_0.out (by repeat (first | (with_reducible first | exact HB.out | apply below_alloc | apply pw_below_drewN | apply below_drew1 | refine below_set ?_ GE512.out | refine below_set ?_ GE513.out | refine below_set ?_ GE520.out | refine below_set ?_ GE527.out | refine below_set ?_ GE534.out | refine below_set ?_ GE541.out | refine below_set ?_ GE548.out | refine below_set ?_ GE555.out | refine below_set ?_ GE562.out | refine below_set ?_ GE569.out | refine below_set ?_ GE576.out | refine below_set ?_ GE583.out | refine below_set ?_ GE590.out | refine below_set ?_ GE597.out | refine below_set ?_ GE604.out | refine below_set ?_ GE611.out) | exact HB.out))); (case side2 => exact HC0_0.out); rintro e w223 ⟨rfl, hb⟩; refine ⟨_, rfl, ?_⟩; replace BK512 := bF_ BK512 NB512_611.out hb; replace BK513 := bF_ BK513 NB513_611.out hb; replace BK520 := bF_ BK520 NB520_611.out hb; replace BK527 := bF_ BK527 NB527_611.out hb; replace BK534 := bF_ BK534 NB534_611.out hb; replace BK541 := bF_ BK541 NB541_611.out hb; replace BK548 := bF_ BK548 NB548_611.out hb; replace BK555 := bF_ BK555 NB555_611.out hb; replace BK562 := bF_ BK562 NB562_611.out hb; replace BK569 := bF_ BK569 NB569_611.out hb; replace BK576 := bF_ BK576 NB576_611.out hb; replace BK583 := bF_ BK583 NB583_611.out hb; replace BK590 := bF_ BK590 NB590_611.out hb; replace BK597 := bF_ BK597 NB597_611.out hb; replace BK604 := bF_ BK604 NB604_611.out hb; replace BK611 := Aside0.mk (blk_below (g := gb611) (o := .cells #[.int .u8 t605, .int .i64 t606, .int .i64 t607, .int .i64 t608, .int .i64 t609] 31 (0, 0)) (by (with_reducible repeat (first | refine blk_drewN ?_ _ | refine blk_drew ?_ | refine blk_alloc ?_ _)); refine blk_put (cs := #[.int .u8 t605, .int .i64 t606, .int .i64 t607, .int .i64 t608, .int .i64 0]) ?_ 4 _ rfl; (with_reducible repeat (first | refine blk_drewN ?_ _ | refine blk_drew ?_ | refine blk_alloc ?_ _)); refine blk_put (cs := #[.int .u8 t605, .int .i64 t606, .int .i64 t607, .int .i64 0, .int .i64 0]) ?_ 3 _ rfl; (with_reducible repeat (first | refine blk_drewN ?_ _ | refine blk_drew ?_ | refine blk_alloc ?_ _)); refine blk_put (cs := #[.int .u8 t605, .int .i64 t606, .int .i64 0, .int .i64 0, .int .i64 0]) ?_ 2 _ rfl; (with_reducible repeat (first | refine blk_drewN ?_ _ | refine blk_drew ?_ | refine blk_alloc ?_ _)); refine blk_put (cs := #[.int .u8 t605, .int .i64 0, .int .i64 0, .int .i64 0, .int .i64 0]) ?_ 1 _ rfl; (with_reducible repeat (first | refine blk_drewN ?_ _ | refine blk_drew ?_ | refine blk_alloc ?_ _)); refine blk_put (cs := #[.int .u8 0, .int .i64 0, .int .i64 0, .int .i64 0, .int .i64 0]) ?_ 0 _ rfl; (with_reducible repeat (first | refine blk_drewN ?_ _ | refine blk_drew ?_ | refine blk_alloc ?_ _)); exact BK611.out) hb); replace HB := Aside0.mk (below_step (hG_ HB.out GE611.out) hb); (try clear hb); (try clear hb2); (try clear hk); (try clear hi); (try clear hnb205 hnc205 hnb206 hnc206 hcz220_0 hcz220_1 hcz220_2 hcz220_3 hcz220_4 hfz220_0 hfz220_1 hfz220_2 hfz220_3 hfz220_4 hcz221_0 hcz221_1 hcz221_2 hfz221_0 hfz221_1 hfz221_2 hcz222_0 hcz222_1 hcz222_2 hcz222_3 hcz222_4 hfz222_0 hfz222_1 hfz222_2 hfz222_3 hfz222_4)) | ((with_reducible refine gate_dst (N := 37) rfl ?_); refine box_event ?hg (N := 37) ?hd (cs := #[.int .u8 0, .int .i64 0, .int .i64 0, .int .i64 0, .int .i64 0]) (t := 31) ?hr ?_; (case hd => rfl); (case hg => rfl); (case hr => first | (go_simp; done) | (go_simp; rfl)); intro gb618 hg w224 hbox hb; have BK618 := Aside0.mk (hbox); have GW618 := bz_ (hB_ HB.out) hg; have GE618 := bz_ (hB_ HB.out) hg; replace HB := Aside0.mk (below_step (hB_ HB.out) hb); have NB512_618 := bn_ BK512 hg; have NB618_512 := bm_ BK512 hg; replace BK512 := bs_ BK512 hb; have NB513_618 := bn_ BK513 hg; have NB618_513 := bm_ BK513 hg; replace BK513 := bs_ BK513 hb; have NB520_618 := bn_ BK520 hg; have NB618_520 := bm_ BK520 hg; replace BK520 := bs_ BK520 hb; have NB527_618 := bn_ BK527 hg; have NB618_527 := bm_ BK527 hg; replace BK527 := bs_ BK527 hb; have NB534_618 := bn_ BK534 hg; have NB618_534 := bm_ BK534 hg; replace BK534 := bs_ BK534 hb; have NB541_618 := bn_ BK541 hg; have NB618_541 := bm_ BK541 hg; replace BK541 := bs_ BK541 hb; have NB548_618 := bn_ BK548 hg; have NB618_548 := bm_ BK548 hg; replace BK548 := bs_ BK548 hb; have NB555_618 := bn_ BK555 hg; have NB618_555 := bm_ BK555 hg; replace BK555 := bs_ BK555 hb; have NB562_618 := bn_ BK562 hg; have NB618_562 := bm_ BK562 hg; replace BK562 := bs_ BK562 hb; have NB569_618 := bn_ BK569 hg; have NB618_569 := bm_ BK569 hg; replace BK569 := bs_ BK569 hb; have NB576_618 := bn_ BK576 hg; have NB618_576 := bm_ BK576 hg; replace BK576 := bs_ BK576 hb; have NB583_618 := bn_ BK583 hg; have NB618_583 := bm_ BK583 hg; replace BK583 := bs_ BK583 hb; have NB590_618 := bn_ BK590 hg; have NB618_590 := bm_ BK590 hg; replace BK590 := bs_ BK590 hb; have NB597_618 := bn_ BK597 hg; have NB618_597 := bm_ BK597 hg; replace BK597 := bs_ BK597 hb; have NB604_618 := bn_ BK604 hg; have NB618_604 := bm_ BK604 hg; replace BK604 := bs_ BK604 hb; have NB611_618 := bn_ BK611 hg; have NB618_611 := bm_ BK611 hg; replace BK611 := bs_ BK611 hb; clear hb hbox hg; (try clear hnb205 hnc205 hnb206 hnc206 hcz220_0 hcz220_1 hcz220_2 hcz220_3 hcz220_4 hfz220_0 hfz220_1 hfz220_2 hfz220_3 hfz220_4 hcz221_0 hcz221_1 hcz221_2 hfz221_0 hfz221_1 hfz221_2 hcz222_0 hcz222_1 hcz222_2 hcz222_3 hcz222_4 hfz222_0 hfz222_1 hfz222_2 hfz222_3 hfz222_4); have hnb225 := NB618_512.out; have hnc225 := NB512_618.out; have hnb226 := NB618_513.out; have hnc226 := NB513_618.out; have hcz241_0 : w224.cell? ⟨gb618, 0, none⟩ = some (.int .u8 0) := ck_ BK618 0; have hcz241_1 : w224.cell? ⟨gb618, 1, none⟩ = some (.int .i64 0) := ck_ BK618 1; have hcz241_2 : w224.cell? ⟨gb618, 2, none⟩ = some (.int .i64 0) := ck_ BK618 2; have hcz241_3 : w224.cell? ⟨gb618, 3, none⟩ = some (.int .i64 0) := ck_ BK618 3; have hcz241_4 : w224.cell? ⟨gb618, 4, none⟩ = some (.int .i64 0) := ck_ BK618 4; have hfz241_0 := blk_frozen BK618.out 0; have hfz241_1 := blk_frozen BK618.out 1; have hfz241_2 := blk_frozen BK618.out 2; have hfz241_3 := blk_frozen BK618.out 3; have hfz241_4 := blk_frozen BK618.out 4; have hcz242_0 : w224.cell? ⟨gb512, 0, none⟩ = some (.slice A0_0 l0_0.length c0_0) := ck_ BK512 0; have hcz242_1 : w224.cell? ⟨gb512, 1, none⟩ = some (.int .i64 a0_1) := ck_ BK512 1; have hcz242_2 : w224.cell? ⟨gb512, 2, none⟩ = some (.int .i64 a0_2) := ck_ BK512 2; have hfz242_0 := blk_frozen BK512.out 0; have hfz242_1 := blk_frozen BK512.out 1; have hfz242_2 := blk_frozen BK512.out 2; have hcz243_0 : w224.cell? ⟨gb513, 0, none⟩ = some (.int .u8 a1_0) := ck_ BK513 0; have hcz243_1 : w224.cell? ⟨gb513, 1, none⟩ = some (.int .i64 a1_1) := ck_ BK513 1; have hcz243_2 : w224.cell? ⟨gb513, 2, none⟩ = some (.int .i64 a1_2) := ck_ BK513 2; have hcz243_3 : w224.cell? ⟨gb513, 3, none⟩ = some (.int .i64 a1_3) := ck_ BK513 3; have hcz243_4 : w224.cell? ⟨gb513, 4, none⟩ = some (.int .i64 a1_4) := ck_ BK513 4; have hfz243_0 := blk_frozen BK513.out 0; have hfz243_1 := blk_frozen BK513.out 1; have hfz243_2 := blk_frozen BK513.out 2; have hfz243_3 := blk_frozen BK513.out 3; have hfz243_4 := blk_frozen BK513.out 4) | ((with_reducible refine gate_callee (f := 27) rfl ?_); refine goesL_ (some 166) rfl rfl Try.func27 (by kernel_rfl) rfl #[.agg #[.slice A0_0 l0_0.length c0_0, .int .i64 a0_1, .int .i64 a0_2], .agg #[.int .u8 a1_0, .int .i64 a1_1, .int .i64 a1_2, .int .i64 a1_3, .int .i64 a1_4]] rfl (by (try simp only [List.map_toArray, List.map_cons, List.map_nil]); first | done | rfl | (simp only [List.length_drop, List.length_take]; rfl)) ?_; (with_reducible refine (millhandref24_Drop.calls k _ _ l0_0 a0_1 a0_2 a1_0 a1_1 a1_2 a1_3 a1_4 t619 t620 t621 t622 t623 t624 _ ?side1 ?side2 A25.out).mono ?_); (case side1 => exact Kd.C_below HR0_0.out (by repeat (first | (with_reducible first | exact HB.out | apply below_alloc | apply pw_below_drewN | apply below_drew1 | refine below_set ?_ GE512.out | refine below_set ?_ GE513.out | refine below_set ?_ GE520.out | refine below_set ?_ GE527.out | refine below_set ?_ GE534.out | refine below_set ?_ GE541.out | refine below_set ?_ GE548.out | refine below_set ?_ GE555.out | refine below_set ?_ GE562.out | refine below_set ?_ GE569.out | refine below_set ?_ GE576.out | refine below_set ?_ GE583.out | refine below_set ?_ GE590.out | refine below_set ?_ GE597.out | refine below_set ?_ GE604.out | refine below_set ?_ GE611.out | refine below_set ?_ GE618.out) | exact HB.out))); (case side2 => exact HC0_0.out); rintro e w244 ⟨rfl, hb⟩; refine ⟨_, rfl, ?_⟩; replace BK512 := bF_ BK512 NB512_618.out hb; replace BK513 := bF_ BK513 NB513_618.out hb; replace BK520 := bF_ BK520 NB520_618.out hb; replace BK527 := bF_ BK527 NB527_618.out hb; replace BK534 := bF_ BK534 NB534_618.out hb; replace BK541 := bF_ BK541 NB541_618.out hb; replace BK548 := bF_ BK548 NB548_618.out hb; replace BK555 := bF_ BK555 NB555_618.out hb; replace BK562 := bF_ BK562 NB562_618.out hb; replace BK569 := bF_ BK569 NB569_618.out hb; replace BK576 := bF_ BK576 NB576_618.out hb; replace BK583 := bF_ BK583 NB583_618.out hb; replace BK590 := bF_ BK590 NB590_618.out hb; replace BK597 := bF_ BK597 NB597_618.out hb; replace BK604 := bF_ BK604 NB604_618.out hb; replace BK611 := bF_ BK611 NB611_618.out hb; replace BK618 := Aside0.mk (blk_below (g := gb618) (o := .cells #[.int .u8 t612, .int .i64 t613, .int .i64 t614, .int .i64 t615, .int .i64 t616] 31 (0, 0)) (by (with_reducible repeat (first | refine blk_drewN ?_ _ | refine blk_drew ?_ | refine blk_alloc ?_ _)); refine blk_put (cs := #[.int .u8 t612, .int .i64 t613, .int .i64 t614, .int .i64 t615, .int .i64 0]) ?_ 4 _ rfl; (with_reducible repeat (first | refine blk_drewN ?_ _ | refine blk_drew ?_ | refine blk_alloc ?_ _)); refine blk_put (cs := #[.int .u8 t612, .int .i64 t613, .int .i64 t614, .int .i64 0, .int .i64 0]) ?_ 3 _ rfl; (with_reducible repeat (first | refine blk_drewN ?_ _ | refine blk_drew ?_ | refine blk_alloc ?_ _)); refine blk_put (cs := #[.int .u8 t612, .int .i64 t613, .int .i64 0, .int .i64 0, .int .i64 0]) ?_ 2 _ rfl; (with_reducible repeat (first | refine blk_drewN ?_ _ | refine blk_drew ?_ | refine blk_alloc ?_ _)); refine blk_put (cs := #[.int .u8 t612, .int .i64 0, .int .i64 0, .int .i64 0, .int .i64 0]) ?_ 1 _ rfl; (with_reducible repeat (first | refine blk_drewN ?_ _ | refine blk_drew ?_ | refine blk_alloc ?_ _)); refine blk_put (cs := #[.int .u8 0, .int .i64 0, .int .i64 0, .int .i64 0, .int .i64 0]) ?_ 0 _ rfl; (with_reducible repeat (first | refine blk_drewN ?_ _ | refine blk_drew ?_ | refine blk_alloc ?_ _)); exact BK618.out) hb); replace HB := Aside0.mk (below_step (hG_ HB.out GE618.out) hb); (try clear hb); (try clear hb2); (try clear hk); (try clear hi); (try clear hnb225 hnc225 hnb226 hnc226 hcz241_0 hcz241_1 hcz241_2 hcz241_3 hcz241_4 hfz241_0 hfz241_1 hfz241_2 hfz241_3 hfz241_4 hcz242_0 hcz242_1 hcz242_2 hfz242_0 hfz242_1 hfz242_2 hcz243_0 hcz243_1 hcz243_2 hcz243_3 hcz243_4 hfz243_0 hfz243_1 hfz243_2 hfz243_3 hfz243_4)) | ((with_reducible refine gate_dst (N := 39) rfl ?_); refine box_event ?hg (N := 39) ?hd (cs := #[.int .u8 0, .int .i64 0, .int .i64 0, .int .i64 0, .int .i64 0]) (t := 31) ?hr ?_; (case hd => rfl); (case hg => rfl); (case hr => first | (go_simp; done) | (go_simp; rfl)); intro gb625 hg w245 hbox hb; have BK625 := Aside0.mk (hbox); have GW625 := bz_ (hB_ HB.out) hg; have GE625 := bz_ (hB_ HB.out) hg; replace HB := Aside0.mk (below_step (hB_ HB.out) hb); have NB512_625 := bn_ BK512 hg; have NB625_512 := bm_ BK512 hg; replace BK512 := bs_ BK512 hb; have NB513_625 := bn_ BK513 hg; have NB625_513 := bm_ BK513 hg; replace BK513 := bs_ BK513 hb; have NB520_625 := bn_ BK520 hg; have NB625_520 := bm_ BK520 hg; replace BK520 := bs_ BK520 hb; have NB527_625 := bn_ BK527 hg; have NB625_527 := bm_ BK527 hg; replace BK527 := bs_ BK527 hb; have NB534_625 := bn_ BK534 hg; have NB625_534 := bm_ BK534 hg; replace BK534 := bs_ BK534 hb; have NB541_625 := bn_ BK541 hg; have NB625_541 := bm_ BK541 hg; replace BK541 := bs_ BK541 hb; have NB548_625 := bn_ BK548 hg; have NB625_548 := bm_ BK548 hg; replace BK548 := bs_ BK548 hb; have NB555_625 := bn_ BK555 hg; have NB625_555 := bm_ BK555 hg; replace BK555 := bs_ BK555 hb; have NB562_625 := bn_ BK562 hg; have NB625_562 := bm_ BK562 hg; replace BK562 := bs_ BK562 hb; have NB569_625 := bn_ BK569 hg; have NB625_569 := bm_ BK569 hg; replace BK569 := bs_ BK569 hb; have NB576_625 := bn_ BK576 hg; have NB625_576 := bm_ BK576 hg; replace BK576 := bs_ BK576 hb; have NB583_625 := bn_ BK583 hg; have NB625_583 := bm_ BK583 hg; replace BK583 := bs_ BK583 hb; have NB590_625 := bn_ BK590 hg; have NB625_590 := bm_ BK590 hg; replace BK590 := bs_ BK590 hb; have NB597_625 := bn_ BK597 hg; have NB625_597 := bm_ BK597 hg; replace BK597 := bs_ BK597 hb; have NB604_625 := bn_ BK604 hg; have NB625_604 := bm_ BK604 hg; replace BK604 := bs_ BK604 hb; have NB611_625 := bn_ BK611 hg; have NB625_611 := bm_ BK611 hg; replace BK611 := bs_ BK611 hb; have NB618_625 := bn_ BK618 hg; have NB625_618 := bm_ BK618 hg; replace BK618 := bs_ BK618 hb; clear hb hbox hg; (try clear hnb225 hnc225 hnb226 hnc226 hcz241_0 hcz241_1 hcz241_2 hcz241_3 hcz241_4 hfz241_0 hfz241_1 hfz241_2 hfz241_3 hfz241_4 hcz242_0 hcz242_1 hcz242_2 hfz242_0 hfz242_1 hfz242_2 hcz243_0 hcz243_1 hcz243_2 hcz243_3 hcz243_4 hfz243_0 hfz243_1 hfz243_2 hfz243_3 hfz243_4); have hnb246 := NB625_512.out; have hnc246 := NB512_625.out; have hcz263_0 : w245.cell? ⟨gb625, 0, none⟩ = some (.int .u8 0) := ck_ BK625 0; have hcz263_1 : w245.cell? ⟨gb625, 1, none⟩ = some (.int .i64 0) := ck_ BK625 1; have hcz263_2 : w245.cell? ⟨gb625, 2, none⟩ = some (.int .i64 0) := ck_ BK625 2; have hcz263_3 : w245.cell? ⟨gb625, 3, none⟩ = some (.int .i64 0) := ck_ BK625 3; have hcz263_4 : w245.cell? ⟨gb625, 4, none⟩ = some (.int .i64 0) := ck_ BK625 4; have hfz263_0 := blk_frozen BK625.out 0; have hfz263_1 := blk_frozen BK625.out 1; have hfz263_2 := blk_frozen BK625.out 2; have hfz263_3 := blk_frozen BK625.out 3; have hfz263_4 := blk_frozen BK625.out 4; have hcz264_0 : w245.cell? ⟨gb512, 0, none⟩ = some (.slice A0_0 l0_0.length c0_0) := ck_ BK512 0; have hcz264_1 : w245.cell? ⟨gb512, 1, none⟩ = some (.int .i64 a0_1) := ck_ BK512 1; have hcz264_2 : w245.cell? ⟨gb512, 2, none⟩ = some (.int .i64 a0_2) := ck_ BK512 2; have hfz264_0 := blk_frozen BK512.out 0; have hfz264_1 := blk_frozen BK512.out 1; have hfz264_2 := blk_frozen BK512.out 2) | ((with_reducible refine gate_callee (f := 8) rfl ?_); refine goesL_ (some 172) rfl rfl Try.func8 (by kernel_rfl) rfl #[.agg #[.slice A0_0 l0_0.length c0_0, .int .i64 a0_1, .int .i64 a0_2], .int .i64 a2] rfl (by (try simp only [List.map_toArray, List.map_cons, List.map_nil]); first | done | rfl | (simp only [List.length_drop, List.length_take]; rfl)) ?_; (with_reducible refine (task_Pause.calls k _ _ l0_0 a0_1 a0_2 a2 t626 t627 _ ?side1 ?side2 A26.out).mono ?_); (case side1 => exact Kd.C_below HR0_0.out (by repeat (first | (with_reducible first | exact HB.out | apply below_alloc | apply pw_below_drewN | apply below_drew1 | refine below_set ?_ GE512.out | refine below_set ?_ GE513.out | refine below_set ?_ GE520.out | refine below_set ?_ GE527.out | refine below_set ?_ GE534.out | refine below_set ?_ GE541.out | refine below_set ?_ GE548.out | refine below_set ?_ GE555.out | refine below_set ?_ GE562.out | refine below_set ?_ GE569.out | refine below_set ?_ GE576.out | refine below_set ?_ GE583.out | refine below_set ?_ GE590.out | refine below_set ?_ GE597.out | refine below_set ?_ GE604.out | refine below_set ?_ GE611.out | refine below_set ?_ GE618.out | refine below_set ?_ GE625.out) | exact HB.out))); (case side2 => exact HC0_0.out); rintro e w265 ⟨rfl, hb⟩; refine ⟨_, rfl, ?_⟩; replace BK512 := bF_ BK512 NB512_625.out hb; replace BK513 := bF_ BK513 NB513_625.out hb; replace BK520 := bF_ BK520 NB520_625.out hb; replace BK527 := bF_ BK527 NB527_625.out hb; replace BK534 := bF_ BK534 NB534_625.out hb; replace BK541 := bF_ BK541 NB541_625.out hb; replace BK548 := bF_ BK548 NB548_625.out hb; replace BK555 := bF_ BK555 NB555_625.out hb; replace BK562 := bF_ BK562 NB562_625.out hb; replace BK569 := bF_ BK569 NB569_625.out hb; replace BK576 := bF_ BK576 NB576_625.out hb; replace BK583 := bF_ BK583 NB583_625.out hb; replace BK590 := bF_ BK590 NB590_625.out hb; replace BK597 := bF_ BK597 NB597_625.out hb; replace BK604 := bF_ BK604 NB604_625.out hb; replace BK611 := bF_ BK611 NB611_625.out hb; replace BK618 := bF_ BK618 NB618_625.out hb; replace BK625 := Aside0.mk (blk_below (g := gb625) (o := .cells #[.int .u8 t619, .int .i64 t620, .int .i64 t621, .int .i64 t622, .int .i64 t623] 31 (0, 0)) (by (with_reducible repeat (first | refine blk_drewN ?_ _ | refine blk_drew ?_ | refine blk_alloc ?_ _)); refine blk_put (cs := #[.int .u8 t619, .int .i64 t620, .int .i64 t621, .int .i64 t622, .int .i64 0]) ?_ 4 _ rfl; (with_reducible repeat (first | refine blk_drewN ?_ _ | refine blk_drew ?_ | refine blk_alloc ?_ _)); refine blk_put (cs := #[.int .u8 t619, .int .i64 t620, .int .i64 t621, .int .i64 0, .int .i64 0]) ?_ 3 _ rfl; (with_reducible repeat (first | refine blk_drewN ?_ _ | refine blk_drew ?_ | refine blk_alloc ?_ _)); refine blk_put (cs := #[.int .u8 t619, .int .i64 t620, .int .i64 0, .int .i64 0, .int .i64 0]) ?_ 2 _ rfl; (with_reducible repeat (first | refine blk_drewN ?_ _ | refine blk_drew ?_ | refine blk_alloc ?_ _)); refine blk_put (cs := #[.int .u8 t619, .int .i64 0, .int .i64 0, .int .i64 0, .int .i64 0]) ?_ 1 _ rfl; (with_reducible repeat (first | refine blk_drewN ?_ _ | refine blk_drew ?_ | refine blk_alloc ?_ _)); refine blk_put (cs := #[.int .u8 0, .int .i64 0, .int .i64 0, .int .i64 0, .int .i64 0]) ?_ 0 _ rfl; (with_reducible repeat (first | refine blk_drewN ?_ _ | refine blk_drew ?_ | refine blk_alloc ?_ _)); exact BK625.out) hb); replace HB := Aside0.mk (below_step (hG_ HB.out GE625.out) hb); (try clear hb); (try clear hb2); (try clear hk); (try clear hi); (try clear hnb246 hnc246 hcz263_0 hcz263_1 hcz263_2 hcz263_3 hcz263_4 hfz263_0 hfz263_1 hfz263_2 hfz263_3 hfz263_4 hcz264_0 hcz264_1 hcz264_2 hfz264_0 hfz264_1 hfz264_2); have hcz266_0 : w265.cell? ⟨gb512, 0, none⟩ = some (.slice A0_0 l0_0.length c0_0) := ck_ BK512 0; have hcz266_1 : w265.cell? ⟨gb512, 1, none⟩ = some (.int .i64 a0_1) := ck_ BK512 1; have hcz266_2 : w265.cell? ⟨gb512, 2, none⟩ = some (.int .i64 a0_2) := ck_ BK512 2; have hfz266_0 := blk_frozen BK512.out 0; have hfz266_1 := blk_frozen BK512.out 1; have hfz266_2 := blk_frozen BK512.out 2) | ((with_reducible refine gate_callee (f := 28) rfl ?_); refine goesL_ (some 178) rfl rfl Try.func28 (by kernel_rfl) rfl #[.agg #[.slice A0_0 l0_0.length c0_0, .int .i64 a0_1, .int .i64 a0_2], .int .i64 a2] rfl (by (try simp only [List.map_toArray, List.map_cons, List.map_nil]); first | done | rfl | (simp only [List.length_drop, List.length_take]; rfl)) ?_; (with_reducible refine (millhandref24_Pause.calls k _ _ l0_0 a0_1 a0_2 a2 t628 t629 _ ?side1 ?side2 A27.out).mono ?_); (case side1 => repeat (first | exact (Kd.C_below HR0_0.out HB.out) | (with_reducible refine Kd.C_alloc ?_ _) | (with_reducible refine Kd.C_drewN ?_ _) | (with_reducible refine Kd.C_drew ?_))); (case side2 => exact HC0_0.out); rintro e w267 ⟨rfl, hb⟩; refine ⟨_, rfl, ?_⟩; replace BK512 := bs_ BK512 hb; replace BK513 := bs_ BK513 hb; replace BK520 := bs_ BK520 hb; replace BK527 := bs_ BK527 hb; replace BK534 := bs_ BK534 hb; replace BK541 := bs_ BK541 hb; replace BK548 := bs_ BK548 hb; replace BK555 := bs_ BK555 hb; replace BK562 := bs_ BK562 hb; replace BK569 := bs_ BK569 hb; replace BK576 := bs_ BK576 hb; replace BK583 := bs_ BK583 hb; replace BK590 := bs_ BK590 hb; replace BK597 := bs_ BK597 hb; replace BK604 := bs_ BK604 hb; replace BK611 := bs_ BK611 hb; replace BK618 := bs_ BK618 hb; replace BK625 := bs_ BK625 hb; replace HB := Aside0.mk (below_step (hB_ HB.out) hb); (try clear hb); (try clear hb2); (try clear hk); (try clear hi); (try clear hcz266_0 hcz266_1 hcz266_2 hfz266_0 hfz266_1 hfz266_2)))
  (try simp only [Act.put, sa_, s0_, s1_])
  go_cut [45] (fun v45 wc => ∃ (kq : Nat) (x45_27 : Bool), v45 = .bool x45_27 ∧ Aside0 (x45_27 = true) ∧ Aside0 (millhandlaw24_TaskGoes.j0 kq a3 t589 t596 t603 t610 t617 t624 t626 t627 t628 t629 x45_27 l0_0 a0_1 a0_2 a1_0 a1_1 a1_2 a1_3 a1_4 t584 t585 t586 t587 t588 t591 t592 t593 t594 t595 t598 t599 t600 t601 t602 t605 t606 t607 t608 t609 t612 t613 t614 t615 t616 t619 t620 t621 t622 t623 = some r) ∧ Aside0 (kq ≤ k) ∧ Aside0 (wc.heap[gb512]? = some (.cells #[(.slice A0_0 l0_0.length c0_0), .int .i64 a0_1, .int .i64 a0_2] 24 (0, 0))) ∧ Aside0 (wc.heap[gb513]? = some (.cells #[.int .u8 a1_0, .int .i64 a1_1, .int .i64 a1_2, .int .i64 a1_3, .int .i64 a1_4] 31 (0, 0))) ∧ Aside0 (wc.heap[gb520]? = some (.cells #[.int .u8 t514, .int .i64 t515, .int .i64 t516, .int .i64 t517, .int .i64 t518] 31 (0, 0))) ∧ Aside0 (wc.heap[gb527]? = some (.cells #[.int .u8 t521, .int .i64 t522, .int .i64 t523, .int .i64 t524, .int .i64 t525] 31 (0, 0))) ∧ Aside0 (wc.heap[gb534]? = some (.cells #[.int .u8 t528, .int .i64 t529, .int .i64 t530, .int .i64 t531, .int .i64 t532] 31 (0, 0))) ∧ Aside0 (wc.heap[gb541]? = some (.cells #[.int .u8 t535, .int .i64 t536, .int .i64 t537, .int .i64 t538, .int .i64 t539] 31 (0, 0))) ∧ Aside0 (wc.heap[gb548]? = some (.cells #[.int .u8 t542, .int .i64 t543, .int .i64 t544, .int .i64 t545, .int .i64 t546] 31 (0, 0))) ∧ Aside0 (wc.heap[gb555]? = some (.cells #[.int .u8 t549, .int .i64 t550, .int .i64 t551, .int .i64 t552, .int .i64 t553] 31 (0, 0))) ∧ Aside0 (wc.heap[gb562]? = some (.cells #[.int .u8 t556, .int .i64 t557, .int .i64 t558, .int .i64 t559, .int .i64 t560] 31 (0, 0))) ∧ Aside0 (wc.heap[gb569]? = some (.cells #[.int .u8 t563, .int .i64 t564, .int .i64 t565, .int .i64 t566, .int .i64 t567] 31 (0, 0))) ∧ Aside0 (wc.heap[gb576]? = some (.cells #[.int .u8 t570, .int .i64 t571, .int .i64 t572, .int .i64 t573, .int .i64 t574] 31 (0, 0))) ∧ Aside0 (wc.heap[gb583]? = some (.cells #[.int .u8 t577, .int .i64 t578, .int .i64 t579, .int .i64 t580, .int .i64 t581] 31 (0, 0))) ∧ Aside0 (wc.heap[gb590]? = some (.cells #[.int .u8 t584, .int .i64 t585, .int .i64 t586, .int .i64 t587, .int .i64 t588] 31 (0, 0))) ∧ Aside0 (wc.heap[gb597]? = some (.cells #[.int .u8 t591, .int .i64 t592, .int .i64 t593, .int .i64 t594, .int .i64 t595] 31 (0, 0))) ∧ Aside0 (wc.heap[gb604]? = some (.cells #[.int .u8 t598, .int .i64 t599, .int .i64 t600, .int .i64 t601, .int .i64 t602] 31 (0, 0))) ∧ Aside0 (wc.heap[gb611]? = some (.cells #[.int .u8 t605, .int .i64 t606, .int .i64 t607, .int .i64 t608, .int .i64 t609] 31 (0, 0))) ∧ Aside0 (wc.heap[gb618]? = some (.cells #[.int .u8 t612, .int .i64 t613, .int .i64 t614, .int .i64 t615, .int .i64 t616] 31 (0, 0))) ∧ Aside0 (wc.heap[gb625]? = some (.cells #[.int .u8 t619, .int .i64 t620, .int .i64 t621, .int .i64 t622, .int .i64 t623] 31 (0, 0))) ∧ Aside0 (Below w.heap.size w wc))
  case first => as_aux_lemma =>
   have H := HC28.out
   clear HC28
   by_cases c268 : (t514 == t521 && (t515 == t522 && (t516 == t523 && (t517 == t524 && (t518 == t525))))) = true
   ·
    rw [if_pos c268] at H
    have c268b0 : (t514 == t521 && (t515 == t522 && (t516 == t523 && (t517 == t524 && (t518 == t525))))) = true := c268
    (try (have c268b1 : decide (t514 = t521 && (t515 == t522 && (t516 == t523 && (t517 == t524 && (t518 == t525))))) = true := by simpa using c268))
    (try (have c268b2 : (t514 == t521 && (t515 == t522 && (t516 == t523 && (t517 == t524 && (t518 == t525))))) = true := by simpa using c268))
    clear c268
    (first | rw [c268b0] | (simp only [i64_w, i32_w]; rw [c268b0]) | skip)
    by_cases c269 : t519 = t526
    ·
     rw [if_pos c269] at H
     have c269b0 : (t519 == t526) = true := beq_iff_eq.mpr c269
     have c269b1 : (t519 != t526) = false := bne_eq_false_iff_eq.mpr c269
     clear c269
     by_cases c270 : (t528 == t535 && (t529 == t536 && (t530 == t537 && (t531 == t538 && (t532 == t539))))) = true
     ·
      rw [if_pos c270] at H
      have c270b0 : (t528 == t535 && (t529 == t536 && (t530 == t537 && (t531 == t538 && (t532 == t539))))) = true := c270
      (try (have c270b1 : decide (t528 = t535 && (t529 == t536 && (t530 == t537 && (t531 == t538 && (t532 == t539))))) = true := by simpa using c270))
      (try (have c270b2 : (t528 == t535 && (t529 == t536 && (t530 == t537 && (t531 == t538 && (t532 == t539))))) = true := by simpa using c270))
      clear c270
      by_cases c271 : t533 = t540
      ·
       rw [if_pos c271] at H
       have c271b0 : (t533 == t540) = true := beq_iff_eq.mpr c271
       have c271b1 : (t533 != t540) = false := bne_eq_false_iff_eq.mpr c271
       clear c271
       by_cases c272 : (t542 == t549 && (t543 == t550 && (t544 == t551 && (t545 == t552 && (t546 == t553))))) = true
       ·
        rw [if_pos c272] at H
        have c272b0 : (t542 == t549 && (t543 == t550 && (t544 == t551 && (t545 == t552 && (t546 == t553))))) = true := c272
        (try (have c272b1 : decide (t542 = t549 && (t543 == t550 && (t544 == t551 && (t545 == t552 && (t546 == t553))))) = true := by simpa using c272))
        (try (have c272b2 : (t542 == t549 && (t543 == t550 && (t544 == t551 && (t545 == t552 && (t546 == t553))))) = true := by simpa using c272))
        clear c272
        by_cases c273 : t547 = t554
        ·
         rw [if_pos c273] at H
         have c273b0 : (t547 == t554) = true := beq_iff_eq.mpr c273
         have c273b1 : (t547 != t554) = false := bne_eq_false_iff_eq.mpr c273
         clear c273
         by_cases c274 : (t556 == t563 && (t557 == t564 && (t558 == t565 && (t559 == t566 && (t560 == t567))))) = true
         ·
          rw [if_pos c274] at H
          have c274b0 : (t556 == t563 && (t557 == t564 && (t558 == t565 && (t559 == t566 && (t560 == t567))))) = true := c274
          (try (have c274b1 : decide (t556 = t563 && (t557 == t564 && (t558 == t565 && (t559 == t566 && (t560 == t567))))) = true := by simpa using c274))
          (try (have c274b2 : (t556 == t563 && (t557 == t564 && (t558 == t565 && (t559 == t566 && (t560 == t567))))) = true := by simpa using c274))
          clear c274
          by_cases c275 : t561 = t568
          ·
           rw [if_pos c275] at H
           have c275b0 : (t561 == t568) = true := beq_iff_eq.mpr c275
           have c275b1 : (t561 != t568) = false := bne_eq_false_iff_eq.mpr c275
           clear c275
           by_cases c276 : (t570 == t577 && (t571 == t578 && (t572 == t579 && (t573 == t580 && (t574 == t581))))) = true
           ·
            rw [if_pos c276] at H
            have c276b0 : (t570 == t577 && (t571 == t578 && (t572 == t579 && (t573 == t580 && (t574 == t581))))) = true := c276
            (try (have c276b1 : decide (t570 = t577 && (t571 == t578 && (t572 == t579 && (t573 == t580 && (t574 == t581))))) = true := by simpa using c276))
            (try (have c276b2 : (t570 == t577 && (t571 == t578 && (t572 == t579 && (t573 == t580 && (t574 == t581))))) = true := by simpa using c276))
            clear c276
            have H' := Aside0.mk H
            clear H
            have hnb279 := NB520_527.out
            have hnc279 := NB527_520.out
            have hnb280 := NB520_534.out
            have hnc280 := NB534_520.out
            have hnb281 := NB520_541.out
            have hnc281 := NB541_520.out
            have hnb282 := NB520_548.out
            have hnc282 := NB548_520.out
            have hnb283 := NB520_555.out
            have hnc283 := NB555_520.out
            have hnb284 := NB520_562.out
            have hnc284 := NB562_520.out
            have hnb285 := NB520_569.out
            have hnc285 := NB569_520.out
            have hnb286 := NB520_576.out
            have hnc286 := NB576_520.out
            have hnb287 := NB520_583.out
            have hnc287 := NB583_520.out
            have hcz294_0 : w267.cell? ⟨gb520, 0, none⟩ = some (.int .u8 t514) := ck_ BK520 0
            have hcz294_1 : w267.cell? ⟨gb520, 1, none⟩ = some (.int .i64 t515) := ck_ BK520 1
            have hcz294_2 : w267.cell? ⟨gb520, 2, none⟩ = some (.int .i64 t516) := ck_ BK520 2
            have hcz294_3 : w267.cell? ⟨gb520, 3, none⟩ = some (.int .i64 t517) := ck_ BK520 3
            have hcz294_4 : w267.cell? ⟨gb520, 4, none⟩ = some (.int .i64 t518) := ck_ BK520 4
            have hfz294_0 := blk_frozen BK520.out 0
            have hfz294_1 := blk_frozen BK520.out 1
            have hfz294_2 := blk_frozen BK520.out 2
            have hfz294_3 := blk_frozen BK520.out 3
            have hfz294_4 := blk_frozen BK520.out 4
            have hnb297 := NB527_534.out
            have hnc297 := NB534_527.out
            have hnb298 := NB527_541.out
            have hnc298 := NB541_527.out
            have hnb299 := NB527_548.out
            have hnc299 := NB548_527.out
            have hnb300 := NB527_555.out
            have hnc300 := NB555_527.out
            have hnb301 := NB527_562.out
            have hnc301 := NB562_527.out
            have hnb302 := NB527_569.out
            have hnc302 := NB569_527.out
            have hnb303 := NB527_576.out
            have hnc303 := NB576_527.out
            have hnb304 := NB527_583.out
            have hnc304 := NB583_527.out
            have hcz311_0 : w267.cell? ⟨gb527, 0, none⟩ = some (.int .u8 t521) := ck_ BK527 0
            have hcz311_1 : w267.cell? ⟨gb527, 1, none⟩ = some (.int .i64 t522) := ck_ BK527 1
            have hcz311_2 : w267.cell? ⟨gb527, 2, none⟩ = some (.int .i64 t523) := ck_ BK527 2
            have hcz311_3 : w267.cell? ⟨gb527, 3, none⟩ = some (.int .i64 t524) := ck_ BK527 3
            have hcz311_4 : w267.cell? ⟨gb527, 4, none⟩ = some (.int .i64 t525) := ck_ BK527 4
            have hfz311_0 := blk_frozen BK527.out 0
            have hfz311_1 := blk_frozen BK527.out 1
            have hfz311_2 := blk_frozen BK527.out 2
            have hfz311_3 := blk_frozen BK527.out 3
            have hfz311_4 := blk_frozen BK527.out 4
            have hnb314 := NB534_541.out
            have hnc314 := NB541_534.out
            have hnb315 := NB534_548.out
            have hnc315 := NB548_534.out
            have hnb316 := NB534_555.out
            have hnc316 := NB555_534.out
            have hnb317 := NB534_562.out
            have hnc317 := NB562_534.out
            have hnb318 := NB534_569.out
            have hnc318 := NB569_534.out
            have hnb319 := NB534_576.out
            have hnc319 := NB576_534.out
            have hnb320 := NB534_583.out
            have hnc320 := NB583_534.out
            have hcz327_0 : w267.cell? ⟨gb534, 0, none⟩ = some (.int .u8 t528) := ck_ BK534 0
            have hcz327_1 : w267.cell? ⟨gb534, 1, none⟩ = some (.int .i64 t529) := ck_ BK534 1
            have hcz327_2 : w267.cell? ⟨gb534, 2, none⟩ = some (.int .i64 t530) := ck_ BK534 2
            have hcz327_3 : w267.cell? ⟨gb534, 3, none⟩ = some (.int .i64 t531) := ck_ BK534 3
            have hcz327_4 : w267.cell? ⟨gb534, 4, none⟩ = some (.int .i64 t532) := ck_ BK534 4
            have hfz327_0 := blk_frozen BK534.out 0
            have hfz327_1 := blk_frozen BK534.out 1
            have hfz327_2 := blk_frozen BK534.out 2
            have hfz327_3 := blk_frozen BK534.out 3
            have hfz327_4 := blk_frozen BK534.out 4
            have hnb330 := NB541_548.out
            have hnc330 := NB548_541.out
            have hnb331 := NB541_555.out
            have hnc331 := NB555_541.out
            have hnb332 := NB541_562.out
            have hnc332 := NB562_541.out
            have hnb333 := NB541_569.out
            have hnc333 := NB569_541.out
            have hnb334 := NB541_576.out
            have hnc334 := NB576_541.out
            have hnb335 := NB541_583.out
            have hnc335 := NB583_541.out
            have hcz342_0 : w267.cell? ⟨gb541, 0, none⟩ = some (.int .u8 t535) := ck_ BK541 0
            have hcz342_1 : w267.cell? ⟨gb541, 1, none⟩ = some (.int .i64 t536) := ck_ BK541 1
            have hcz342_2 : w267.cell? ⟨gb541, 2, none⟩ = some (.int .i64 t537) := ck_ BK541 2
            have hcz342_3 : w267.cell? ⟨gb541, 3, none⟩ = some (.int .i64 t538) := ck_ BK541 3
            have hcz342_4 : w267.cell? ⟨gb541, 4, none⟩ = some (.int .i64 t539) := ck_ BK541 4
            have hfz342_0 := blk_frozen BK541.out 0
            have hfz342_1 := blk_frozen BK541.out 1
            have hfz342_2 := blk_frozen BK541.out 2
            have hfz342_3 := blk_frozen BK541.out 3
            have hfz342_4 := blk_frozen BK541.out 4
            have hnb345 := NB548_555.out
            have hnc345 := NB555_548.out
            have hnb346 := NB548_562.out
            have hnc346 := NB562_548.out
            have hnb347 := NB548_569.out
            have hnc347 := NB569_548.out
            have hnb348 := NB548_576.out
            have hnc348 := NB576_548.out
            have hnb349 := NB548_583.out
            have hnc349 := NB583_548.out
            have hcz356_0 : w267.cell? ⟨gb548, 0, none⟩ = some (.int .u8 t542) := ck_ BK548 0
            have hcz356_1 : w267.cell? ⟨gb548, 1, none⟩ = some (.int .i64 t543) := ck_ BK548 1
            have hcz356_2 : w267.cell? ⟨gb548, 2, none⟩ = some (.int .i64 t544) := ck_ BK548 2
            have hcz356_3 : w267.cell? ⟨gb548, 3, none⟩ = some (.int .i64 t545) := ck_ BK548 3
            have hcz356_4 : w267.cell? ⟨gb548, 4, none⟩ = some (.int .i64 t546) := ck_ BK548 4
            have hfz356_0 := blk_frozen BK548.out 0
            have hfz356_1 := blk_frozen BK548.out 1
            have hfz356_2 := blk_frozen BK548.out 2
            have hfz356_3 := blk_frozen BK548.out 3
            have hfz356_4 := blk_frozen BK548.out 4
            have hnb359 := NB555_562.out
            have hnc359 := NB562_555.out
            have hnb360 := NB555_569.out
            have hnc360 := NB569_555.out
            have hnb361 := NB555_576.out
            have hnc361 := NB576_555.out
            have hnb362 := NB555_583.out
            have hnc362 := NB583_555.out
            have hcz369_0 : w267.cell? ⟨gb555, 0, none⟩ = some (.int .u8 t549) := ck_ BK555 0
            have hcz369_1 : w267.cell? ⟨gb555, 1, none⟩ = some (.int .i64 t550) := ck_ BK555 1
            have hcz369_2 : w267.cell? ⟨gb555, 2, none⟩ = some (.int .i64 t551) := ck_ BK555 2
            have hcz369_3 : w267.cell? ⟨gb555, 3, none⟩ = some (.int .i64 t552) := ck_ BK555 3
            have hcz369_4 : w267.cell? ⟨gb555, 4, none⟩ = some (.int .i64 t553) := ck_ BK555 4
            have hfz369_0 := blk_frozen BK555.out 0
            have hfz369_1 := blk_frozen BK555.out 1
            have hfz369_2 := blk_frozen BK555.out 2
            have hfz369_3 := blk_frozen BK555.out 3
            have hfz369_4 := blk_frozen BK555.out 4
            have hnb372 := NB562_569.out
            have hnc372 := NB569_562.out
            have hnb373 := NB562_576.out
            have hnc373 := NB576_562.out
            have hnb374 := NB562_583.out
            have hnc374 := NB583_562.out
            have hcz381_0 : w267.cell? ⟨gb562, 0, none⟩ = some (.int .u8 t556) := ck_ BK562 0
            have hcz381_1 : w267.cell? ⟨gb562, 1, none⟩ = some (.int .i64 t557) := ck_ BK562 1
            have hcz381_2 : w267.cell? ⟨gb562, 2, none⟩ = some (.int .i64 t558) := ck_ BK562 2
            have hcz381_3 : w267.cell? ⟨gb562, 3, none⟩ = some (.int .i64 t559) := ck_ BK562 3
            have hcz381_4 : w267.cell? ⟨gb562, 4, none⟩ = some (.int .i64 t560) := ck_ BK562 4
            have hfz381_0 := blk_frozen BK562.out 0
            have hfz381_1 := blk_frozen BK562.out 1
            have hfz381_2 := blk_frozen BK562.out 2
            have hfz381_3 := blk_frozen BK562.out 3
            have hfz381_4 := blk_frozen BK562.out 4
            have hnb384 := NB569_576.out
            have hnc384 := NB576_569.out
            have hnb385 := NB569_583.out
            have hnc385 := NB583_569.out
            have hcz392_0 : w267.cell? ⟨gb569, 0, none⟩ = some (.int .u8 t563) := ck_ BK569 0
            have hcz392_1 : w267.cell? ⟨gb569, 1, none⟩ = some (.int .i64 t564) := ck_ BK569 1
            have hcz392_2 : w267.cell? ⟨gb569, 2, none⟩ = some (.int .i64 t565) := ck_ BK569 2
            have hcz392_3 : w267.cell? ⟨gb569, 3, none⟩ = some (.int .i64 t566) := ck_ BK569 3
            have hcz392_4 : w267.cell? ⟨gb569, 4, none⟩ = some (.int .i64 t567) := ck_ BK569 4
            have hfz392_0 := blk_frozen BK569.out 0
            have hfz392_1 := blk_frozen BK569.out 1
            have hfz392_2 := blk_frozen BK569.out 2
            have hfz392_3 := blk_frozen BK569.out 3
            have hfz392_4 := blk_frozen BK569.out 4
            have hnb395 := NB576_583.out
            have hnc395 := NB583_576.out
            have hcz402_0 : w267.cell? ⟨gb576, 0, none⟩ = some (.int .u8 t570) := ck_ BK576 0
            have hcz402_1 : w267.cell? ⟨gb576, 1, none⟩ = some (.int .i64 t571) := ck_ BK576 1
            have hcz402_2 : w267.cell? ⟨gb576, 2, none⟩ = some (.int .i64 t572) := ck_ BK576 2
            have hcz402_3 : w267.cell? ⟨gb576, 3, none⟩ = some (.int .i64 t573) := ck_ BK576 3
            have hcz402_4 : w267.cell? ⟨gb576, 4, none⟩ = some (.int .i64 t574) := ck_ BK576 4
            have hfz402_0 := blk_frozen BK576.out 0
            have hfz402_1 := blk_frozen BK576.out 1
            have hfz402_2 := blk_frozen BK576.out 2
            have hfz402_3 := blk_frozen BK576.out 3
            have hfz402_4 := blk_frozen BK576.out 4
            have hcz411_0 : w267.cell? ⟨gb583, 0, none⟩ = some (.int .u8 t577) := ck_ BK583 0
            have hcz411_1 : w267.cell? ⟨gb583, 1, none⟩ = some (.int .i64 t578) := ck_ BK583 1
            have hcz411_2 : w267.cell? ⟨gb583, 2, none⟩ = some (.int .i64 t579) := ck_ BK583 2
            have hcz411_3 : w267.cell? ⟨gb583, 3, none⟩ = some (.int .i64 t580) := ck_ BK583 3
            have hcz411_4 : w267.cell? ⟨gb583, 4, none⟩ = some (.int .i64 t581) := ck_ BK583 4
            have hfz411_0 := blk_frozen BK583.out 0
            have hfz411_1 := blk_frozen BK583.out 1
            have hfz411_2 := blk_frozen BK583.out 2
            have hfz411_3 := blk_frozen BK583.out 3
            have hfz411_4 := blk_frozen BK583.out 4
            go_wp2
            go_meet
            case rel => exact ⟨_, ((t575 == t582)), (by first | rfl | (simp; done) | (simp [*]; done)), ⟨beq_iff_eq.mpr (tt_eq6 (HE.out.2.2.2.2.1))⟩, H', ⟨by first | omega | exact Nat.le_refl _⟩, ⟨by (with_reducible repeat (first | refine blk_drewN ?_ _ | refine blk_drew ?_ | refine blk_alloc ?_ _)); exact BK512.out⟩, ⟨by (with_reducible repeat (first | refine blk_drewN ?_ _ | refine blk_drew ?_ | refine blk_alloc ?_ _)); exact BK513.out⟩, ⟨by (with_reducible repeat (first | refine blk_drewN ?_ _ | refine blk_drew ?_ | refine blk_alloc ?_ _)); exact BK520.out⟩, ⟨by (with_reducible repeat (first | refine blk_drewN ?_ _ | refine blk_drew ?_ | refine blk_alloc ?_ _)); exact BK527.out⟩, ⟨by (with_reducible repeat (first | refine blk_drewN ?_ _ | refine blk_drew ?_ | refine blk_alloc ?_ _)); exact BK534.out⟩, ⟨by (with_reducible repeat (first | refine blk_drewN ?_ _ | refine blk_drew ?_ | refine blk_alloc ?_ _)); exact BK541.out⟩, ⟨by (with_reducible repeat (first | refine blk_drewN ?_ _ | refine blk_drew ?_ | refine blk_alloc ?_ _)); exact BK548.out⟩, ⟨by (with_reducible repeat (first | refine blk_drewN ?_ _ | refine blk_drew ?_ | refine blk_alloc ?_ _)); exact BK555.out⟩, ⟨by (with_reducible repeat (first | refine blk_drewN ?_ _ | refine blk_drew ?_ | refine blk_alloc ?_ _)); exact BK562.out⟩, ⟨by (with_reducible repeat (first | refine blk_drewN ?_ _ | refine blk_drew ?_ | refine blk_alloc ?_ _)); exact BK569.out⟩, ⟨by (with_reducible repeat (first | refine blk_drewN ?_ _ | refine blk_drew ?_ | refine blk_alloc ?_ _)); exact BK576.out⟩, ⟨by (with_reducible repeat (first | refine blk_drewN ?_ _ | refine blk_drew ?_ | refine blk_alloc ?_ _)); exact BK583.out⟩, ⟨by (with_reducible repeat (first | refine blk_drewN ?_ _ | refine blk_drew ?_ | refine blk_alloc ?_ _)); exact BK590.out⟩, ⟨by (with_reducible repeat (first | refine blk_drewN ?_ _ | refine blk_drew ?_ | refine blk_alloc ?_ _)); exact BK597.out⟩, ⟨by (with_reducible repeat (first | refine blk_drewN ?_ _ | refine blk_drew ?_ | refine blk_alloc ?_ _)); exact BK604.out⟩, ⟨by (with_reducible repeat (first | refine blk_drewN ?_ _ | refine blk_drew ?_ | refine blk_alloc ?_ _)); exact BK611.out⟩, ⟨by (with_reducible repeat (first | refine blk_drewN ?_ _ | refine blk_drew ?_ | refine blk_alloc ?_ _)); exact BK618.out⟩, ⟨by (with_reducible repeat (first | refine blk_drewN ?_ _ | refine blk_drew ?_ | refine blk_alloc ?_ _)); exact BK625.out⟩, ⟨by repeat (first | (with_reducible first | exact HB.out | apply below_alloc | apply pw_below_drewN | apply below_drew1 | refine below_set ?_ GE512.out | refine below_set ?_ GE513.out | refine below_set ?_ GE520.out | refine below_set ?_ GE527.out | refine below_set ?_ GE534.out | refine below_set ?_ GE541.out | refine below_set ?_ GE548.out | refine below_set ?_ GE555.out | refine below_set ?_ GE562.out | refine below_set ?_ GE569.out | refine below_set ?_ GE576.out | refine below_set ?_ GE583.out | refine below_set ?_ GE590.out | refine below_set ?_ GE597.out | refine below_set ?_ GE604.out | refine below_set ?_ GE611.out | refine below_set ?_ GE618.out | refine below_set ?_ GE625.out) | exact HB.out)⟩⟩
           ·
            exact absurd (tt_eq5 (HE.out.2.2.2.2.1)) c276
          ·
           exact absurd (tt_eq6 (HE.out.2.2.2.1)) c275
         ·
          exact absurd (tt_eq5 (HE.out.2.2.2.1)) c274
        ·
         exact absurd (tt_eq6 (HE.out.2.2.1)) c273
       ·
        exact absurd (tt_eq5 (HE.out.2.2.1)) c272
      ·
       exact absurd (tt_eq6 (HE.out.2.1)) c271
     ·
      exact absurd (tt_eq5 (HE.out.2.1)) c270
    ·
     exact absurd (tt_eq6 (HE.out.1)) c269
   ·
    exact absurd (tt_eq5 (HE.out.1)) c268
  case rest => as_aux_lemma =>
   clear HC28
   try clear c1
   try clear c2
   try clear p2
   try clear c9
   try clear c10
   try clear c11
   try clear c26
   try clear c27
   try clear c94
   try clear c95
   try clear c96
   try clear c97
   try clear c98
   try clear c99
   try clear c100
   try clear c101
   try clear c102
   try clear c103
   try clear c104
   try clear c105
   try clear c106
   try clear c107
   try clear c108
   try clear c109
   try clear c110
   try clear c111
   try clear c112
   try clear c113
   try clear c114
   try clear c115
   try clear c116
   try clear c268
   try clear c268b0
   try clear c268b1
   try clear c268b2
   try clear c269
   try clear c269b0
   try clear c269b1
   try clear c270
   try clear c270b0
   try clear c270b1
   try clear c270b2
   try clear c271
   try clear c271b0
   try clear c271b1
   try clear c945
   try clear c946
   try clear c947
   try clear c948
   try clear c949
   try clear c950
   try clear c952
   try clear c953
   try clear c954
   try clear c955
   try clear c956
   try clear c957
   try clear c958
   try clear c959
   try clear c960
   try clear c961
   try clear c962
   try clear c963
   try clear c965
   try clear c966
   try clear c967
   try clear c968
   try clear c969
   try clear c970
   try clear c971
   try clear c972
   try clear c973
   try clear c974
   try clear c975
   try clear c976
   try clear c977
   try clear c978
   try clear c979
   try clear c980
   try clear c981
   try clear c983
   try clear c984
   try clear c985
   try clear c986
   try clear c987
   try clear c988
   try clear c989
   try clear c990
   try clear c991
   try clear c992
   try clear c993
   try clear c994
   try clear c995
   try clear c996
   try clear c997
   try clear c998
   try clear c1000
   try clear c1001
   try clear c1002
   try clear c1003
   try clear c1004
   try clear c1005
   try clear c1006
   try clear c1007
   try clear c1008
   try clear c1009
   try clear c1010
   try clear c1011
   try clear c1012
   try clear c1013
   try clear c1014
   try clear c1016
   try clear c1017
   try clear c1018
   try clear c1019
   try clear c1020
   try clear c1021
   try clear c1022
   try clear c1023
   try clear c1024
   try clear c1025
   try clear c1026
   try clear c1027
   try clear c1028
   try clear c1029
   try clear c1031
   try clear c1032
   try clear c1033
   try clear c1034
   try clear c1035
   try clear c1036
   try clear c1037
   try clear c1038
   try clear c1039
   try clear c1040
   try clear c1041
   try clear c1042
   try clear c1043
   try clear c1044
   try clear c1045
   try clear c1046
   try clear c1047
   try clear c1049
   try clear c1050
   try clear c1051
   try clear c1052
   try clear c1053
   try clear c1054
   try clear c1055
   try clear c1056
   try clear c1057
   try clear c1058
   try clear c1059
   try clear c1060
   try clear c1061
   try clear c1062
   try clear c1063
   try clear c1064
   try clear c1066
   try clear c1067
   try clear c1068
   try clear c1069
   try clear c1070
   try clear c1071
   try clear c1072
   try clear c1073
   try clear c1074
   try clear c1075
   try clear c1076
   try clear c1077
   try clear c1078
   try clear c1079
   try clear c1080
   try clear c1082
   try clear c1083
   try clear c1084
   try clear c1085
   try clear c1086
   try clear c1087
   try clear c1088
   try clear c1089
   try clear c1090
   try clear c1091
   try clear c1092
   try clear c1093
   try clear c1094
   try clear c1095
   try clear c1097
   try clear c1098
   try clear c1099
   try clear c1100
   try clear c1101
   try clear c1102
   try clear c1103
   try clear c1104
   try clear c1105
   try clear c1106
   try clear c1107
   try clear c1108
   try clear c1109
   try clear c1110
   try clear c1111
   try clear c1112
   try clear c1113
   try clear c1115
   try clear c1116
   try clear c1117
   try clear c1118
   try clear c1119
   try clear c1120
   try clear c1121
   try clear c1122
   try clear c1123
   try clear c1124
   try clear c1125
   try clear c1126
   try clear c1127
   try clear c1128
   try clear c1129
   try clear c1130
   try clear c1132
   try clear c1133
   try clear c1134
   try clear c1135
   try clear c1136
   try clear c1137
   try clear c1138
   try clear c1139
   try clear c1140
   try clear c1141
   try clear c1142
   try clear c1143
   try clear c1144
   try clear c1145
   try clear c1146
   try clear c1147
   try clear c1148
   try clear c1150
   try clear c1151
   try clear c1152
   try clear c1153
   try clear c1154
   try clear c1155
   try clear c1156
   try clear c1157
   try clear c1158
   try clear c1159
   try clear c1160
   try clear c1161
   try clear c1162
   try clear c1163
   try clear c1164
   try clear c1165
   try clear hcz1015_0
   try clear hcz1015_1
   try clear hcz1015_2
   try clear hcz1015_3
   try clear hcz1015_4
   try clear hcz1030_0
   try clear hcz1030_1
   try clear hcz1030_2
   try clear hcz1030_3
   try clear hcz1030_4
   try clear hcz1048_0
   try clear hcz1048_1
   try clear hcz1048_2
   try clear hcz1048_3
   try clear hcz1048_4
   try clear hcz1065_0
   try clear hcz1065_1
   try clear hcz1065_2
   try clear hcz1065_3
   try clear hcz1065_4
   try clear hcz1081_0
   try clear hcz1081_1
   try clear hcz1081_2
   try clear hcz1081_3
   try clear hcz1081_4
   try clear hcz1096_0
   try clear hcz1096_1
   try clear hcz1096_2
   try clear hcz1096_3
   try clear hcz1096_4
   try clear hcz1114_0
   try clear hcz1114_1
   try clear hcz1114_2
   try clear hcz1114_3
   try clear hcz1114_4
   try clear hcz1131_0
   try clear hcz1131_1
   try clear hcz1131_2
   try clear hcz1131_3
   try clear hcz1131_4
   try clear hcz1149_0
   try clear hcz1149_1
   try clear hcz1149_2
   try clear hcz1149_3
   try clear hcz1149_4
   try clear hcz1166_0
   try clear hcz1166_1
   try clear hcz1166_2
   try clear hcz1166_3
   try clear hcz1166_4
   try clear hcz951_0
   try clear hcz951_1
   try clear hcz951_2
   try clear hcz951_3
   try clear hcz951_4
   try clear hcz964_0
   try clear hcz964_1
   try clear hcz964_2
   try clear hcz964_3
   try clear hcz964_4
   try clear hcz982_0
   try clear hcz982_1
   try clear hcz982_2
   try clear hcz982_3
   try clear hcz982_4
   try clear hcz999_0
   try clear hcz999_1
   try clear hcz999_2
   try clear hcz999_3
   try clear hcz999_4
   try clear hfz1015_0
   try clear hfz1015_1
   try clear hfz1015_2
   try clear hfz1015_3
   try clear hfz1015_4
   try clear hfz1030_0
   try clear hfz1030_1
   try clear hfz1030_2
   try clear hfz1030_3
   try clear hfz1030_4
   try clear hfz1048_0
   try clear hfz1048_1
   try clear hfz1048_2
   try clear hfz1048_3
   try clear hfz1048_4
   try clear hfz1065_0
   try clear hfz1065_1
   try clear hfz1065_2
   try clear hfz1065_3
   try clear hfz1065_4
   try clear hfz1081_0
   try clear hfz1081_1
   try clear hfz1081_2
   try clear hfz1081_3
   try clear hfz1081_4
   try clear hfz1096_0
   try clear hfz1096_1
   try clear hfz1096_2
   try clear hfz1096_3
   try clear hfz1096_4
   try clear hfz1114_0
   try clear hfz1114_1
   try clear hfz1114_2
   try clear hfz1114_3
   try clear hfz1114_4
   try clear hfz1131_0
   try clear hfz1131_1
   try clear hfz1131_2
   try clear hfz1131_3
   try clear hfz1131_4
   try clear hfz1149_0
   try clear hfz1149_1
   try clear hfz1149_2
   try clear hfz1149_3
   try clear hfz1149_4
   try clear hfz1166_0
   try clear hfz1166_1
   try clear hfz1166_2
   try clear hfz1166_3
   try clear hfz1166_4
   try clear hfz951_0
   try clear hfz951_1
   try clear hfz951_2
   try clear hfz951_3
   try clear hfz951_4
   try clear hfz964_0
   try clear hfz964_1
   try clear hfz964_2
   try clear hfz964_3
   try clear hfz964_4
   try clear hfz982_0
   try clear hfz982_1
   try clear hfz982_2
   try clear hfz982_3
   try clear hfz982_4
   try clear hfz999_0
   try clear hfz999_1
   try clear hfz999_2
   try clear hfz999_3
   try clear hfz999_4
   obtain ⟨kq, x45_27, rfl, HX_x45, HA, HJ27, BK512, BK513, BK520, BK527, BK534, BK541, BK548, BK555, BK562, BK569, BK576, BK583, BK590, BK597, BK604, BK611, BK618, BK625, HB⟩ := hcut
   cases kq with
   | zero => exact absurd HA.out (by simp [millhandlaw24_TaskGoes.j0])
   | succ kj27 =>
    have H := HA.out
    clear HA
    simp only [millhandlaw24_TaskGoes.j0] at H
    have HC1167 := Aside0.mk H
    clear H
    go_upto_region 22 with (fail)
    go_cut [46] (fun v46 wc => ∃ (kq : Nat) (x46_1166 : Bool), v46 = .bool x46_1166 ∧ Aside0 (x46_1166 = true) ∧ Aside0 (millhandlaw24_TaskGoes.j1 kq a3 x45_27 x46_1166 l0_0 a0_1 a0_2 a1_0 a1_1 a1_2 a1_3 a1_4 = some r) ∧ Aside0 (kq ≤ kj27) ∧ Aside0 (wc.heap[gb512]? = some (.cells #[(.slice A0_0 l0_0.length c0_0), .int .i64 a0_1, .int .i64 a0_2] 24 (0, 0))) ∧ Aside0 (wc.heap[gb513]? = some (.cells #[.int .u8 a1_0, .int .i64 a1_1, .int .i64 a1_2, .int .i64 a1_3, .int .i64 a1_4] 31 (0, 0))) ∧ Aside0 (wc.heap[gb520]? = some (.cells #[.int .u8 t514, .int .i64 t515, .int .i64 t516, .int .i64 t517, .int .i64 t518] 31 (0, 0))) ∧ Aside0 (wc.heap[gb527]? = some (.cells #[.int .u8 t521, .int .i64 t522, .int .i64 t523, .int .i64 t524, .int .i64 t525] 31 (0, 0))) ∧ Aside0 (wc.heap[gb534]? = some (.cells #[.int .u8 t528, .int .i64 t529, .int .i64 t530, .int .i64 t531, .int .i64 t532] 31 (0, 0))) ∧ Aside0 (wc.heap[gb541]? = some (.cells #[.int .u8 t535, .int .i64 t536, .int .i64 t537, .int .i64 t538, .int .i64 t539] 31 (0, 0))) ∧ Aside0 (wc.heap[gb548]? = some (.cells #[.int .u8 t542, .int .i64 t543, .int .i64 t544, .int .i64 t545, .int .i64 t546] 31 (0, 0))) ∧ Aside0 (wc.heap[gb555]? = some (.cells #[.int .u8 t549, .int .i64 t550, .int .i64 t551, .int .i64 t552, .int .i64 t553] 31 (0, 0))) ∧ Aside0 (wc.heap[gb562]? = some (.cells #[.int .u8 t556, .int .i64 t557, .int .i64 t558, .int .i64 t559, .int .i64 t560] 31 (0, 0))) ∧ Aside0 (wc.heap[gb569]? = some (.cells #[.int .u8 t563, .int .i64 t564, .int .i64 t565, .int .i64 t566, .int .i64 t567] 31 (0, 0))) ∧ Aside0 (wc.heap[gb576]? = some (.cells #[.int .u8 t570, .int .i64 t571, .int .i64 t572, .int .i64 t573, .int .i64 t574] 31 (0, 0))) ∧ Aside0 (wc.heap[gb583]? = some (.cells #[.int .u8 t577, .int .i64 t578, .int .i64 t579, .int .i64 t580, .int .i64 t581] 31 (0, 0))) ∧ Aside0 (wc.heap[gb590]? = some (.cells #[.int .u8 t584, .int .i64 t585, .int .i64 t586, .int .i64 t587, .int .i64 t588] 31 (0, 0))) ∧ Aside0 (wc.heap[gb597]? = some (.cells #[.int .u8 t591, .int .i64 t592, .int .i64 t593, .int .i64 t594, .int .i64 t595] 31 (0, 0))) ∧ Aside0 (wc.heap[gb604]? = some (.cells #[.int .u8 t598, .int .i64 t599, .int .i64 t600, .int .i64 t601, .int .i64 t602] 31 (0, 0))) ∧ Aside0 (wc.heap[gb611]? = some (.cells #[.int .u8 t605, .int .i64 t606, .int .i64 t607, .int .i64 t608, .int .i64 t609] 31 (0, 0))) ∧ Aside0 (wc.heap[gb618]? = some (.cells #[.int .u8 t612, .int .i64 t613, .int .i64 t614, .int .i64 t615, .int .i64 t616] 31 (0, 0))) ∧ Aside0 (wc.heap[gb625]? = some (.cells #[.int .u8 t619, .int .i64 t620, .int .i64 t621, .int .i64 t622, .int .i64 t623] 31 (0, 0))) ∧ Aside0 (Below w.heap.size w wc))
    case first => as_aux_lemma =>
     have H := HC1167.out
     clear HC1167
     by_cases c1168 : (t584 == t591 && (t585 == t592 && (t586 == t593 && (t587 == t594 && (t588 == t595))))) = true
     ·
      rw [if_pos c1168] at H
      have c1168b0 : (t584 == t591 && (t585 == t592 && (t586 == t593 && (t587 == t594 && (t588 == t595))))) = true := c1168
      (try (have c1168b1 : decide (t584 = t591 && (t585 == t592 && (t586 == t593 && (t587 == t594 && (t588 == t595))))) = true := by simpa using c1168))
      (try (have c1168b2 : (t584 == t591 && (t585 == t592 && (t586 == t593 && (t587 == t594 && (t588 == t595))))) = true := by simpa using c1168))
      clear c1168
      (first | rw [c1168b0] | (simp only [i64_w, i32_w]; rw [c1168b0]) | skip)
      by_cases c1169 : t589 = t596
      ·
       rw [if_pos c1169] at H
       have c1169b0 : (t589 == t596) = true := beq_iff_eq.mpr c1169
       have c1169b1 : (t589 != t596) = false := bne_eq_false_iff_eq.mpr c1169
       clear c1169
       by_cases c1170 : (t598 == t605 && (t599 == t606 && (t600 == t607 && (t601 == t608 && (t602 == t609))))) = true
       ·
        rw [if_pos c1170] at H
        have c1170b0 : (t598 == t605 && (t599 == t606 && (t600 == t607 && (t601 == t608 && (t602 == t609))))) = true := c1170
        (try (have c1170b1 : decide (t598 = t605 && (t599 == t606 && (t600 == t607 && (t601 == t608 && (t602 == t609))))) = true := by simpa using c1170))
        (try (have c1170b2 : (t598 == t605 && (t599 == t606 && (t600 == t607 && (t601 == t608 && (t602 == t609))))) = true := by simpa using c1170))
        clear c1170
        by_cases c1171 : t603 = t610
        ·
         rw [if_pos c1171] at H
         have c1171b0 : (t603 == t610) = true := beq_iff_eq.mpr c1171
         have c1171b1 : (t603 != t610) = false := bne_eq_false_iff_eq.mpr c1171
         clear c1171
         by_cases c1172 : (t612 == t619 && (t613 == t620 && (t614 == t621 && (t615 == t622 && (t616 == t623))))) = true
         ·
          rw [if_pos c1172] at H
          have c1172b0 : (t612 == t619 && (t613 == t620 && (t614 == t621 && (t615 == t622 && (t616 == t623))))) = true := c1172
          (try (have c1172b1 : decide (t612 = t619 && (t613 == t620 && (t614 == t621 && (t615 == t622 && (t616 == t623))))) = true := by simpa using c1172))
          (try (have c1172b2 : (t612 == t619 && (t613 == t620 && (t614 == t621 && (t615 == t622 && (t616 == t623))))) = true := by simpa using c1172))
          clear c1172
          by_cases c1173 : t617 = t624
          ·
           rw [if_pos c1173] at H
           have c1173b0 : (t617 == t624) = true := beq_iff_eq.mpr c1173
           have c1173b1 : (t617 != t624) = false := bne_eq_false_iff_eq.mpr c1173
           clear c1173
           by_cases c1174 : t626 = t628
           ·
            rw [if_pos c1174] at H
            have c1174b0 : (t626 == t628) = true := beq_iff_eq.mpr c1174
            have c1174b1 : (t626 != t628) = false := bne_eq_false_iff_eq.mpr c1174
            clear c1174
            have H' := Aside0.mk H
            clear H
            have hnb1187 := NB590_597.out
            have hnc1187 := NB597_590.out
            have hnb1188 := NB590_604.out
            have hnc1188 := NB604_590.out
            have hnb1189 := NB590_611.out
            have hnc1189 := NB611_590.out
            have hnb1190 := NB590_618.out
            have hnc1190 := NB618_590.out
            have hnb1191 := NB590_625.out
            have hnc1191 := NB625_590.out
            have hcz1192_0 : wc.cell? ⟨gb590, 0, none⟩ = some (.int .u8 t584) := ck_ BK590 0
            have hcz1192_1 : wc.cell? ⟨gb590, 1, none⟩ = some (.int .i64 t585) := ck_ BK590 1
            have hcz1192_2 : wc.cell? ⟨gb590, 2, none⟩ = some (.int .i64 t586) := ck_ BK590 2
            have hcz1192_3 : wc.cell? ⟨gb590, 3, none⟩ = some (.int .i64 t587) := ck_ BK590 3
            have hcz1192_4 : wc.cell? ⟨gb590, 4, none⟩ = some (.int .i64 t588) := ck_ BK590 4
            have hfz1192_0 := blk_frozen BK590.out 0
            have hfz1192_1 := blk_frozen BK590.out 1
            have hfz1192_2 := blk_frozen BK590.out 2
            have hfz1192_3 := blk_frozen BK590.out 3
            have hfz1192_4 := blk_frozen BK590.out 4
            have hnb1205 := NB597_604.out
            have hnc1205 := NB604_597.out
            have hnb1206 := NB597_611.out
            have hnc1206 := NB611_597.out
            have hnb1207 := NB597_618.out
            have hnc1207 := NB618_597.out
            have hnb1208 := NB597_625.out
            have hnc1208 := NB625_597.out
            have hcz1209_0 : wc.cell? ⟨gb597, 0, none⟩ = some (.int .u8 t591) := ck_ BK597 0
            have hcz1209_1 : wc.cell? ⟨gb597, 1, none⟩ = some (.int .i64 t592) := ck_ BK597 1
            have hcz1209_2 : wc.cell? ⟨gb597, 2, none⟩ = some (.int .i64 t593) := ck_ BK597 2
            have hcz1209_3 : wc.cell? ⟨gb597, 3, none⟩ = some (.int .i64 t594) := ck_ BK597 3
            have hcz1209_4 : wc.cell? ⟨gb597, 4, none⟩ = some (.int .i64 t595) := ck_ BK597 4
            have hfz1209_0 := blk_frozen BK597.out 0
            have hfz1209_1 := blk_frozen BK597.out 1
            have hfz1209_2 := blk_frozen BK597.out 2
            have hfz1209_3 := blk_frozen BK597.out 3
            have hfz1209_4 := blk_frozen BK597.out 4
            have hnb1222 := NB604_611.out
            have hnc1222 := NB611_604.out
            have hnb1223 := NB604_618.out
            have hnc1223 := NB618_604.out
            have hnb1224 := NB604_625.out
            have hnc1224 := NB625_604.out
            have hcz1225_0 : wc.cell? ⟨gb604, 0, none⟩ = some (.int .u8 t598) := ck_ BK604 0
            have hcz1225_1 : wc.cell? ⟨gb604, 1, none⟩ = some (.int .i64 t599) := ck_ BK604 1
            have hcz1225_2 : wc.cell? ⟨gb604, 2, none⟩ = some (.int .i64 t600) := ck_ BK604 2
            have hcz1225_3 : wc.cell? ⟨gb604, 3, none⟩ = some (.int .i64 t601) := ck_ BK604 3
            have hcz1225_4 : wc.cell? ⟨gb604, 4, none⟩ = some (.int .i64 t602) := ck_ BK604 4
            have hfz1225_0 := blk_frozen BK604.out 0
            have hfz1225_1 := blk_frozen BK604.out 1
            have hfz1225_2 := blk_frozen BK604.out 2
            have hfz1225_3 := blk_frozen BK604.out 3
            have hfz1225_4 := blk_frozen BK604.out 4
            have hnb1238 := NB611_618.out
            have hnc1238 := NB618_611.out
            have hnb1239 := NB611_625.out
            have hnc1239 := NB625_611.out
            have hcz1240_0 : wc.cell? ⟨gb611, 0, none⟩ = some (.int .u8 t605) := ck_ BK611 0
            have hcz1240_1 : wc.cell? ⟨gb611, 1, none⟩ = some (.int .i64 t606) := ck_ BK611 1
            have hcz1240_2 : wc.cell? ⟨gb611, 2, none⟩ = some (.int .i64 t607) := ck_ BK611 2
            have hcz1240_3 : wc.cell? ⟨gb611, 3, none⟩ = some (.int .i64 t608) := ck_ BK611 3
            have hcz1240_4 : wc.cell? ⟨gb611, 4, none⟩ = some (.int .i64 t609) := ck_ BK611 4
            have hfz1240_0 := blk_frozen BK611.out 0
            have hfz1240_1 := blk_frozen BK611.out 1
            have hfz1240_2 := blk_frozen BK611.out 2
            have hfz1240_3 := blk_frozen BK611.out 3
            have hfz1240_4 := blk_frozen BK611.out 4
            have hnb1253 := NB618_625.out
            have hnc1253 := NB625_618.out
            have hcz1254_0 : wc.cell? ⟨gb618, 0, none⟩ = some (.int .u8 t612) := ck_ BK618 0
            have hcz1254_1 : wc.cell? ⟨gb618, 1, none⟩ = some (.int .i64 t613) := ck_ BK618 1
            have hcz1254_2 : wc.cell? ⟨gb618, 2, none⟩ = some (.int .i64 t614) := ck_ BK618 2
            have hcz1254_3 : wc.cell? ⟨gb618, 3, none⟩ = some (.int .i64 t615) := ck_ BK618 3
            have hcz1254_4 : wc.cell? ⟨gb618, 4, none⟩ = some (.int .i64 t616) := ck_ BK618 4
            have hfz1254_0 := blk_frozen BK618.out 0
            have hfz1254_1 := blk_frozen BK618.out 1
            have hfz1254_2 := blk_frozen BK618.out 2
            have hfz1254_3 := blk_frozen BK618.out 3
            have hfz1254_4 := blk_frozen BK618.out 4
            have hcz1267_0 : wc.cell? ⟨gb625, 0, none⟩ = some (.int .u8 t619) := ck_ BK625 0
            have hcz1267_1 : wc.cell? ⟨gb625, 1, none⟩ = some (.int .i64 t620) := ck_ BK625 1
            have hcz1267_2 : wc.cell? ⟨gb625, 2, none⟩ = some (.int .i64 t621) := ck_ BK625 2
            have hcz1267_3 : wc.cell? ⟨gb625, 3, none⟩ = some (.int .i64 t622) := ck_ BK625 3
            have hcz1267_4 : wc.cell? ⟨gb625, 4, none⟩ = some (.int .i64 t623) := ck_ BK625 4
            have hfz1267_0 := blk_frozen BK625.out 0
            have hfz1267_1 := blk_frozen BK625.out 1
            have hfz1267_2 := blk_frozen BK625.out 2
            have hfz1267_3 := blk_frozen BK625.out 3
            have hfz1267_4 := blk_frozen BK625.out 4
            go_wp2
            go_meet
            case rel => exact ⟨_, ((t627 == t629)), (by first | rfl | (simp; done) | (simp [*]; done)), ⟨beq_iff_eq.mpr (congrArg Prod.snd (HE.out.2.2.2.2.2.2.2.2))⟩, H', ⟨by have := HJ27.out; first | omega | exact Nat.le_refl _⟩, ⟨by (with_reducible repeat (first | refine blk_drewN ?_ _ | refine blk_drew ?_ | refine blk_alloc ?_ _)); exact BK512.out⟩, ⟨by (with_reducible repeat (first | refine blk_drewN ?_ _ | refine blk_drew ?_ | refine blk_alloc ?_ _)); exact BK513.out⟩, ⟨by (with_reducible repeat (first | refine blk_drewN ?_ _ | refine blk_drew ?_ | refine blk_alloc ?_ _)); exact BK520.out⟩, ⟨by (with_reducible repeat (first | refine blk_drewN ?_ _ | refine blk_drew ?_ | refine blk_alloc ?_ _)); exact BK527.out⟩, ⟨by (with_reducible repeat (first | refine blk_drewN ?_ _ | refine blk_drew ?_ | refine blk_alloc ?_ _)); exact BK534.out⟩, ⟨by (with_reducible repeat (first | refine blk_drewN ?_ _ | refine blk_drew ?_ | refine blk_alloc ?_ _)); exact BK541.out⟩, ⟨by (with_reducible repeat (first | refine blk_drewN ?_ _ | refine blk_drew ?_ | refine blk_alloc ?_ _)); exact BK548.out⟩, ⟨by (with_reducible repeat (first | refine blk_drewN ?_ _ | refine blk_drew ?_ | refine blk_alloc ?_ _)); exact BK555.out⟩, ⟨by (with_reducible repeat (first | refine blk_drewN ?_ _ | refine blk_drew ?_ | refine blk_alloc ?_ _)); exact BK562.out⟩, ⟨by (with_reducible repeat (first | refine blk_drewN ?_ _ | refine blk_drew ?_ | refine blk_alloc ?_ _)); exact BK569.out⟩, ⟨by (with_reducible repeat (first | refine blk_drewN ?_ _ | refine blk_drew ?_ | refine blk_alloc ?_ _)); exact BK576.out⟩, ⟨by (with_reducible repeat (first | refine blk_drewN ?_ _ | refine blk_drew ?_ | refine blk_alloc ?_ _)); exact BK583.out⟩, ⟨by (with_reducible repeat (first | refine blk_drewN ?_ _ | refine blk_drew ?_ | refine blk_alloc ?_ _)); exact BK590.out⟩, ⟨by (with_reducible repeat (first | refine blk_drewN ?_ _ | refine blk_drew ?_ | refine blk_alloc ?_ _)); exact BK597.out⟩, ⟨by (with_reducible repeat (first | refine blk_drewN ?_ _ | refine blk_drew ?_ | refine blk_alloc ?_ _)); exact BK604.out⟩, ⟨by (with_reducible repeat (first | refine blk_drewN ?_ _ | refine blk_drew ?_ | refine blk_alloc ?_ _)); exact BK611.out⟩, ⟨by (with_reducible repeat (first | refine blk_drewN ?_ _ | refine blk_drew ?_ | refine blk_alloc ?_ _)); exact BK618.out⟩, ⟨by (with_reducible repeat (first | refine blk_drewN ?_ _ | refine blk_drew ?_ | refine blk_alloc ?_ _)); exact BK625.out⟩, ⟨by repeat (first | (with_reducible first | exact HB.out | apply below_alloc | apply pw_below_drewN | apply below_drew1 | refine below_set ?_ GE512.out | refine below_set ?_ GE513.out | refine below_set ?_ GE520.out | refine below_set ?_ GE527.out | refine below_set ?_ GE534.out | refine below_set ?_ GE541.out | refine below_set ?_ GE548.out | refine below_set ?_ GE555.out | refine below_set ?_ GE562.out | refine below_set ?_ GE569.out | refine below_set ?_ GE576.out | refine below_set ?_ GE583.out | refine below_set ?_ GE590.out | refine below_set ?_ GE597.out | refine below_set ?_ GE604.out | refine below_set ?_ GE611.out | refine below_set ?_ GE618.out | refine below_set ?_ GE625.out) | exact HB.out)⟩⟩
           ·
            exact absurd (congrArg Prod.fst (HE.out.2.2.2.2.2.2.2.2)) c1174
          ·
           exact absurd (tt_eq6 (HE.out.2.2.2.2.2.2.2.1)) c1173
         ·
          exact absurd (tt_eq5 (HE.out.2.2.2.2.2.2.2.1)) c1172
        ·
         exact absurd (tt_eq6 (HE.out.2.2.2.2.2.2.1)) c1171
       ·
        exact absurd (tt_eq5 (HE.out.2.2.2.2.2.2.1)) c1170
      ·
       exact absurd (tt_eq6 (HE.out.2.2.2.2.2.1)) c1169
     ·
      exact absurd (tt_eq5 (HE.out.2.2.2.2.2.1)) c1168
    case rest => as_aux_lemma =>
     clear HC1167
     try clear c1
     try clear p2
     try clear c11
     try clear c15
     try clear c16
     try clear c17
     try clear c116
     try clear c117
     try clear c152
     try clear c153
     try clear c154
     try clear c155
     try clear c156
     try clear c157
     try clear c158
     try clear c159
     try clear c160
     try clear c161
     try clear c162
     try clear c163
     try clear c164
     try clear c165
     try clear c166
     try clear c167
     try clear c168
     try clear c169
     try clear c170
     try clear c171
     try clear c172
     try clear c173
     try clear c174
     try clear c1168
     try clear c1168b0
     try clear c1168b1
     try clear c1168b2
     try clear c1169
     try clear c1169b0
     try clear c1169b1
     try clear c1170
     try clear c1170b0
     try clear c1170b1
     try clear c1170b2
     try clear c1171
     try clear c1171b0
     try clear c1171b1
     try clear c1527
     try clear c1528
     try clear c1529
     try clear c1530
     try clear c1531
     try clear c1532
     try clear c1534
     try clear c1535
     try clear c1536
     try clear c1537
     try clear c1538
     try clear c1539
     try clear c1540
     try clear c1541
     try clear c1542
     try clear c1543
     try clear c1544
     try clear c1545
     try clear c1547
     try clear c1548
     try clear c1549
     try clear c1550
     try clear c1551
     try clear c1552
     try clear c1553
     try clear c1554
     try clear c1555
     try clear c1556
     try clear c1557
     try clear c1558
     try clear c1559
     try clear c1560
     try clear c1561
     try clear c1562
     try clear c1563
     try clear c1565
     try clear c1566
     try clear c1567
     try clear c1568
     try clear c1569
     try clear c1570
     try clear c1571
     try clear c1572
     try clear c1573
     try clear c1574
     try clear c1575
     try clear c1576
     try clear c1577
     try clear c1578
     try clear c1579
     try clear c1580
     try clear c1582
     try clear c1583
     try clear c1584
     try clear c1585
     try clear c1586
     try clear c1587
     try clear c1588
     try clear c1589
     try clear c1590
     try clear c1591
     try clear c1592
     try clear c1593
     try clear c1594
     try clear c1595
     try clear c1596
     try clear c1598
     try clear c1599
     try clear c1600
     try clear c1601
     try clear c1602
     try clear c1603
     try clear c1604
     try clear c1605
     try clear c1606
     try clear c1607
     try clear c1608
     try clear c1609
     try clear c1610
     try clear c1611
     try clear c1613
     try clear c1614
     try clear c1615
     try clear c1616
     try clear c1617
     try clear c1618
     try clear c1619
     try clear c1620
     try clear c1621
     try clear c1622
     try clear c1623
     try clear c1624
     try clear c1625
     try clear c1626
     try clear c1627
     try clear c1628
     try clear c1629
     try clear c1631
     try clear c1632
     try clear c1633
     try clear c1634
     try clear c1635
     try clear c1636
     try clear c1637
     try clear c1638
     try clear c1639
     try clear c1640
     try clear c1641
     try clear c1642
     try clear c1643
     try clear c1644
     try clear c1645
     try clear c1646
     try clear c1648
     try clear c1649
     try clear c1650
     try clear c1651
     try clear c1652
     try clear c1653
     try clear c1654
     try clear c1655
     try clear c1656
     try clear c1657
     try clear c1658
     try clear c1659
     try clear c1660
     try clear c1661
     try clear c1662
     try clear c1664
     try clear c1665
     try clear c1666
     try clear c1667
     try clear c1668
     try clear c1669
     try clear c1670
     try clear c1671
     try clear c1672
     try clear c1673
     try clear c1674
     try clear c1675
     try clear c1676
     try clear c1677
     try clear c1679
     try clear c1680
     try clear c1681
     try clear c1682
     try clear c1683
     try clear c1684
     try clear c1685
     try clear c1686
     try clear c1687
     try clear c1688
     try clear c1689
     try clear c1690
     try clear c1691
     try clear c1692
     try clear c1693
     try clear c1694
     try clear c1695
     try clear c1697
     try clear c1698
     try clear c1699
     try clear c1700
     try clear c1701
     try clear c1702
     try clear c1703
     try clear c1704
     try clear c1705
     try clear c1706
     try clear c1707
     try clear c1708
     try clear c1709
     try clear c1710
     try clear c1711
     try clear c1712
     try clear c1714
     try clear c1715
     try clear c1716
     try clear c1717
     try clear c1718
     try clear c1719
     try clear c1720
     try clear c1721
     try clear c1722
     try clear c1723
     try clear c1724
     try clear c1725
     try clear c1726
     try clear c1727
     try clear c1728
     try clear c1729
     try clear c1730
     try clear c1732
     try clear c1733
     try clear c1734
     try clear c1735
     try clear c1736
     try clear c1737
     try clear c1738
     try clear c1739
     try clear c1740
     try clear c1741
     try clear c1742
     try clear c1743
     try clear c1744
     try clear c1745
     try clear c1746
     try clear c1747
     try clear hcz1533_0
     try clear hcz1533_1
     try clear hcz1533_2
     try clear hcz1533_3
     try clear hcz1533_4
     try clear hcz1546_0
     try clear hcz1546_1
     try clear hcz1546_2
     try clear hcz1546_3
     try clear hcz1546_4
     try clear hcz1564_0
     try clear hcz1564_1
     try clear hcz1564_2
     try clear hcz1564_3
     try clear hcz1564_4
     try clear hcz1581_0
     try clear hcz1581_1
     try clear hcz1581_2
     try clear hcz1581_3
     try clear hcz1581_4
     try clear hcz1597_0
     try clear hcz1597_1
     try clear hcz1597_2
     try clear hcz1597_3
     try clear hcz1597_4
     try clear hcz1612_0
     try clear hcz1612_1
     try clear hcz1612_2
     try clear hcz1612_3
     try clear hcz1612_4
     try clear hcz1630_0
     try clear hcz1630_1
     try clear hcz1630_2
     try clear hcz1630_3
     try clear hcz1630_4
     try clear hcz1647_0
     try clear hcz1647_1
     try clear hcz1647_2
     try clear hcz1647_3
     try clear hcz1647_4
     try clear hcz1663_0
     try clear hcz1663_1
     try clear hcz1663_2
     try clear hcz1663_3
     try clear hcz1663_4
     try clear hcz1678_0
     try clear hcz1678_1
     try clear hcz1678_2
     try clear hcz1678_3
     try clear hcz1678_4
     try clear hcz1696_0
     try clear hcz1696_1
     try clear hcz1696_2
     try clear hcz1696_3
     try clear hcz1696_4
     try clear hcz1713_0
     try clear hcz1713_1
     try clear hcz1713_2
     try clear hcz1713_3
     try clear hcz1713_4
     try clear hcz1731_0
     try clear hcz1731_1
     try clear hcz1731_2
     try clear hcz1731_3
     try clear hcz1731_4
     try clear hcz1748_0
     try clear hcz1748_1
     try clear hcz1748_2
     try clear hcz1748_3
     try clear hcz1748_4
     try clear hfz1533_0
     try clear hfz1533_1
     try clear hfz1533_2
     try clear hfz1533_3
     try clear hfz1533_4
     try clear hfz1546_0
     try clear hfz1546_1
     try clear hfz1546_2
     try clear hfz1546_3
     try clear hfz1546_4
     try clear hfz1564_0
     try clear hfz1564_1
     try clear hfz1564_2
     try clear hfz1564_3
     try clear hfz1564_4
     try clear hfz1581_0
     try clear hfz1581_1
     try clear hfz1581_2
     try clear hfz1581_3
     try clear hfz1581_4
     try clear hfz1597_0
     try clear hfz1597_1
     try clear hfz1597_2
     try clear hfz1597_3
     try clear hfz1597_4
     try clear hfz1612_0
     try clear hfz1612_1
     try clear hfz1612_2
     try clear hfz1612_3
     try clear hfz1612_4
     try clear hfz1630_0
     try clear hfz1630_1
     try clear hfz1630_2
     try clear hfz1630_3
     try clear hfz1630_4
     try clear hfz1647_0
     try clear hfz1647_1
     try clear hfz1647_2
     try clear hfz1647_3
     try clear hfz1647_4
     try clear hfz1663_0
     try clear hfz1663_1
     try clear hfz1663_2
     try clear hfz1663_3
     try clear hfz1663_4
     try clear hfz1678_0
     try clear hfz1678_1
     try clear hfz1678_2
     try clear hfz1678_3
     try clear hfz1678_4
     try clear hfz1696_0
     try clear hfz1696_1
     try clear hfz1696_2
     try clear hfz1696_3
     try clear hfz1696_4
     try clear hfz1713_0
     try clear hfz1713_1
     try clear hfz1713_2
     try clear hfz1713_3
     try clear hfz1713_4
     try clear hfz1731_0
     try clear hfz1731_1
     try clear hfz1731_2
     try clear hfz1731_3
     try clear hfz1731_4
     try clear hfz1748_0
     try clear hfz1748_1
     try clear hfz1748_2
     try clear hfz1748_3
     try clear hfz1748_4
     obtain ⟨kq, x46_1166, rfl, HX_x46, HA, HJ1166, BK512, BK513, BK520, BK527, BK534, BK541, BK548, BK555, BK562, BK569, BK576, BK583, BK590, BK597, BK604, BK611, BK618, BK625, HB⟩ := hcut
     cases kq with
     | zero => exact absurd HA.out (by simp [millhandlaw24_TaskGoes.j1])
     | succ kj1166 =>
      have H := HA.out
      clear HA
      simp only [millhandlaw24_TaskGoes.j1] at H
      by_cases c1749 : x45_27 = true
      ·
       subst c1749
       have H1 : (if x46_1166 = true then ((task_Check.f kj1166 l0_0 a0_1 a0_2 a1_0 a1_1 a1_2 a1_3 a1_4).bind fun t630 => ((millhandref24_Check.f kj1166 l0_0 a0_1 a0_2 a1_0 a1_1 a1_2 a1_3 a1_4).bind fun t631 => (if t630 = t631 then ((task_Due.f a1_0 a1_1 a1_2 a1_3 a1_4 a3).bind fun t632 => ((millhandref24_Due.f a1_0 a1_1 a1_2 a1_3 a1_4 a3).bind fun t633 => (some (t632 == t633)))) else (some false)))) else (some false)) = some r := by rw [if_pos rfl] at H; exact H
       clear H
       have H := H1
       clear H1
       by_cases c1750 : x46_1166 = true
       ·
        subst c1750
        have H1 : ((task_Check.f kj1166 l0_0 a0_1 a0_2 a1_0 a1_1 a1_2 a1_3 a1_4).bind fun t630 => ((millhandref24_Check.f kj1166 l0_0 a0_1 a0_2 a1_0 a1_1 a1_2 a1_3 a1_4).bind fun t631 => (if t630 = t631 then ((task_Due.f a1_0 a1_1 a1_2 a1_3 a1_4 a3).bind fun t632 => ((millhandref24_Due.f a1_0 a1_1 a1_2 a1_3 a1_4 a3).bind fun t633 => (some (t632 == t633)))) else (some false)))) = some r := by rw [if_pos rfl] at H; exact H
        clear H
        have H := H1
        clear H1
        replace H := Option.bind_eq_some_iff.mp H
        obtain ⟨t630, A17510, H⟩ := H
        try dsimp only at H
        have A1751 := Aside0.mk A17510
        clear A17510
        replace H := Option.bind_eq_some_iff.mp H
        obtain ⟨t631, A17520, H⟩ := H
        replace H : (if t630 = t631 then ((task_Due.f a1_0 a1_1 a1_2 a1_3 a1_4 a3).bind fun t632 => ((millhandref24_Due.f a1_0 a1_1 a1_2 a1_3 a1_4 a3).bind fun t633 => (some (t632 == t633)))) else (some false)) = some r := H
        have A1752 := Aside0.mk A17520
        clear A17520
        by_cases c1753 : t630 = t631
        ·
         rw [if_pos c1753] at H
         have c1753b0 : (t630 == t631) = true := beq_iff_eq.mpr c1753
         have c1753b1 : (t630 != t631) = false := bne_eq_false_iff_eq.mpr c1753
         clear c1753
         replace H := Option.bind_eq_some_iff.mp H
         obtain ⟨t632, A17540, H⟩ := H
         replace H : ((millhandref24_Due.f a1_0 a1_1 a1_2 a1_3 a1_4 a3).bind fun t633 => (some (t632 == t633))) = some r := H
         have A1754 := Aside0.mk A17540
         clear A17540
         replace H := Option.bind_eq_some_iff.mp H
         obtain ⟨t633, A17550, H⟩ := H
         replace H : (some (t632 == t633)) = some r := H
         have A1755 := Aside0.mk A17550
         clear A17550
         obtain rfl := Option.some.inj H
         try go_wp2
         replace BK512 := Aside0.mk (blk_drew BK512.out)
         replace BK513 := Aside0.mk (blk_drew BK513.out)
         replace BK520 := Aside0.mk (blk_drew BK520.out)
         replace BK527 := Aside0.mk (blk_drew BK527.out)
         replace BK534 := Aside0.mk (blk_drew BK534.out)
         replace BK541 := Aside0.mk (blk_drew BK541.out)
         replace BK548 := Aside0.mk (blk_drew BK548.out)
         replace BK555 := Aside0.mk (blk_drew BK555.out)
         replace BK562 := Aside0.mk (blk_drew BK562.out)
         replace BK569 := Aside0.mk (blk_drew BK569.out)
         replace BK576 := Aside0.mk (blk_drew BK576.out)
         replace BK583 := Aside0.mk (blk_drew BK583.out)
         replace BK590 := Aside0.mk (blk_drew BK590.out)
         replace BK597 := Aside0.mk (blk_drew BK597.out)
         replace BK604 := Aside0.mk (blk_drew BK604.out)
         replace BK611 := Aside0.mk (blk_drew BK611.out)
         replace BK618 := Aside0.mk (blk_drew BK618.out)
         replace BK625 := Aside0.mk (blk_drew BK625.out)
         replace HB := Aside0.mk (below_drew1 HB.out)
         refine start_ (n := 23) (S := fun w' => w'.cell? ⟨gb512, 0, none⟩ = some (.slice A0_0 l0_0.length c0_0) ∧ w'.cell? ⟨gb512, 1, none⟩ = some (.int .i64 a0_1) ∧ w'.cell? ⟨gb512, 2, none⟩ = some (.int .i64 a0_2) ∧ w'.cell? ⟨gb513, 0, none⟩ = some (.int .u8 a1_0) ∧ w'.cell? ⟨gb513, 1, none⟩ = some (.int .i64 a1_1) ∧ w'.cell? ⟨gb513, 2, none⟩ = some (.int .i64 a1_2) ∧ w'.cell? ⟨gb513, 3, none⟩ = some (.int .i64 a1_3) ∧ w'.cell? ⟨gb513, 4, none⟩ = some (.int .i64 a1_4)) (ds := []) (b_ 23 0) (by kernel_rfl) rfl rfl ⟨ck_ BK512 0, ck_ BK512 1, ck_ BK512 2, ck_ BK513 0, ck_ BK513 1, ck_ BK513 2, ck_ BK513 3, ck_ BK513 4⟩ (fun hHeld => ?_); refine with_tabW millhandlaw24_TaskGoes.tab23 millhandlaw24_TaskGoes.bits23 (fun HT_ HW_ => ?_)
         generalize wc.drew = w1756 at BK512 BK513 BK520 BK527 BK534 BK541 BK548 BK555 BK562 BK569 BK576 BK583 BK590 BK597 BK604 BK611 BK618 BK625 HB hHeld ⊢
         refine pA_ 0 267 ?_ (b_ 23 1) (any_of HT_.out (by kernel_rfl)) rfl rfl (fun _ _ _ h => h) (by rfl) ?_ ?_ ?_ ?_
         rotate_left
         ·
          intro w'
          go_simp
          with_reducible rfl
         rotate_left
         ·
          simp only [Act.put, sa_, s0_, s1_, i64_w, i32_w]
          rfl
         refine pA_ 1 268 ?_ (b_ 23 3) (any_of HT_.out (by kernel_rfl)) rfl rfl (fun _ _ _ h => h) (by rfl) ?_ ?_ ?_ ?_
         rotate_left
         ·
          intro w'
          go_simp
          with_reducible rfl
         rotate_left
         ·
          simp only [Act.put, sa_, s0_, s1_, i64_w, i32_w]
          rfl
         refine pA_ 2 269 ?_ (b_ 23 7) (any_of HT_.out (by kernel_rfl)) rfl rfl (fun _ _ _ h => h) (by rfl) ?_ ?_ ?_ ?_
         rotate_left
         ·
          intro w'
          go_simp
          with_reducible rfl
         rotate_left
         ·
          simp only [Act.put, sa_, s0_, s1_, i64_w, i32_w]
          rfl
         refine pA_ 3 270 ?_ (b_ 23 15) (any_of HT_.out (by kernel_rfl)) rfl rfl (fun _ _ _ h => h) (by rfl) ?_ ?_ ?_ ?_
         rotate_left
         ·
          intro w'
          go_simp
          with_reducible rfl
         rotate_left
         ·
          simp only [Act.put, sa_, s0_, s1_, i64_w, i32_w]
          rfl
         refine pA_ 4 271 ?_ (b_ 23 31) (any_of HT_.out (by kernel_rfl)) rfl rfl (fun _ _ _ h => h) (by rfl) ?_ ?_ ?_ ?_
         rotate_left
         ·
          intro w'
          go_simp
          with_reducible rfl
         rotate_left
         ·
          simp only [Act.put, sa_, s0_, s1_, i64_w, i32_w]
          rfl
         refine tA_ 5 272 ?_ (b_ 23 63) (take_ofW HT_.out HW_.out (by kernel_rfl)) rfl rfl (fun _ _ _ h => h) (by rfl) ?_ hHeld ?_ ?_ ?_
         rotate_left
         ·
          rintro w' ⟨s0, s1, s2, s3, s4, s5, s6, s7⟩
          go_simp
          with_reducible rfl
         rotate_left
         ·
          simp only [Act.put, sa_, s0_, s1_, i64_w, i32_w]
          rfl
         refine tA_ 6 273 ?_ (b_ 23 127) (take_ofW HT_.out HW_.out (by kernel_rfl)) rfl rfl (fun _ _ _ h => h) (by rfl) ?_ hHeld ?_ ?_ ?_
         rotate_left
         ·
          rintro w' ⟨s0, s1, s2, s3, s4, s5, s6, s7⟩
          go_simp
          with_reducible rfl
         rotate_left
         ·
          simp only [Act.put, sa_, s0_, s1_, i64_w, i32_w]
          rfl
         refine tA_ 8 275 ?_ (b_ 23 383) (take_ofW HT_.out HW_.out (by kernel_rfl)) rfl rfl (fun _ _ _ h => h) (by rfl) ?_ hHeld ?_ ?_ ?_
         rotate_left
         ·
          rintro w' ⟨s0, s1, s2, s3, s4, s5, s6, s7⟩
          go_simp
          with_reducible rfl
         rotate_left
         ·
          simp only [Act.put, sa_, s0_, s1_, i64_w, i32_w]
          rfl
         refine tA_ 9 276 ?_ (b_ 23 895) (take_ofW HT_.out HW_.out (by kernel_rfl)) rfl rfl (fun _ _ _ h => h) (by rfl) ?_ hHeld ?_ ?_ ?_
         rotate_left
         ·
          rintro w' ⟨s0, s1, s2, s3, s4, s5, s6, s7⟩
          go_simp
          with_reducible rfl
         rotate_left
         ·
          simp only [Act.put, sa_, s0_, s1_, i64_w, i32_w]
          rfl
         refine one_ (i := 7) (N := some 274) (b_ 23 1023) rfl rfl (one_of HT_.out (by kernel_rfl)) (by decide) (fun K hK => ?_)
         refine goes_ Try.func9 (by kernel_rfl) rfl #[.agg #[.slice A0_0 l0_0.length c0_0, .int .i64 a0_1, .int .i64 a0_2], .agg #[.int .u8 a1_0, .int .i64 a1_1, .int .i64 a1_2, .int .i64 a1_3, .int .i64 a1_4]] (by rfl) rfl rfl (by (try simp only [List.map_toArray, List.map_cons, List.map_nil]); first | done | rfl | (simp only [List.length_drop, List.length_take]; rfl)) ?_
         with_reducible refine (task_Check.calls kj1166 _ _ l0_0 a0_1 a0_2 a1_0 a1_1 a1_2 a1_3 a1_4 t630 _ ?side1 ?side2 A1751.out).mono ?_
         (case side1 => repeat (first | exact (Kd.C_below HR0_0.out HB.out) | (with_reducible refine Kd.C_alloc ?_ _) | (with_reducible refine Kd.C_drewN ?_ _) | (with_reducible refine Kd.C_drew ?_)))
         (case side2 => exact HC0_0.out)
         rintro e w1757 ⟨rfl, hb⟩
         refine ⟨_, rfl, ?_⟩
         replace BK512 := bs_ BK512 hb
         replace BK513 := bs_ BK513 hb
         replace BK520 := bs_ BK520 hb
         replace BK527 := bs_ BK527 hb
         replace BK534 := bs_ BK534 hb
         replace BK541 := bs_ BK541 hb
         replace BK548 := bs_ BK548 hb
         replace BK555 := bs_ BK555 hb
         replace BK562 := bs_ BK562 hb
         replace BK569 := bs_ BK569 hb
         replace BK576 := bs_ BK576 hb
         replace BK583 := bs_ BK583 hb
         replace BK590 := bs_ BK590 hb
         replace BK597 := bs_ BK597 hb
         replace BK604 := bs_ BK604 hb
         replace BK611 := bs_ BK611 hb
         replace BK618 := bs_ BK618 hb
         replace BK625 := bs_ BK625 hb
         replace HB := Aside0.mk (below_step (hB_ HB.out) hb)
         (try clear hb)
         (try clear hb2)
         (try clear hk)
         (try clear hi)
         refine hK.out _ _ ⟨ck_ BK512 0, ck_ BK512 1, ck_ BK512 2, ck_ BK513 0, ck_ BK513 1, ck_ BK513 2, ck_ BK513 3, ck_ BK513 4⟩ (fun hHeld => ?_)
         clear hK K
         refine norm_ (a' := ?_) ?_ ?_
         rotate_left
         ·
          show Act.put _ (some 274) _ = _
          simp only [Act.put, sa_, s0_, s1_, i64_w, i32_w]
          rfl
         refine one_ (i := 10) (N := some 277) (b_ 23 2047) rfl rfl (one_of HT_.out (by kernel_rfl)) (by decide) (fun K hK => ?_)
         refine goes_ Try.func29 (by kernel_rfl) rfl #[.agg #[.slice A0_0 l0_0.length c0_0, .int .i64 a0_1, .int .i64 a0_2], .agg #[.int .u8 a1_0, .int .i64 a1_1, .int .i64 a1_2, .int .i64 a1_3, .int .i64 a1_4]] (by rfl) rfl rfl (by (try simp only [List.map_toArray, List.map_cons, List.map_nil]); first | done | rfl | (simp only [List.length_drop, List.length_take]; rfl)) ?_
         with_reducible refine (millhandref24_Check.calls kj1166 _ _ l0_0 a0_1 a0_2 a1_0 a1_1 a1_2 a1_3 a1_4 t631 _ ?side1 ?side2 A1752.out).mono ?_
         (case side1 => repeat (first | exact (Kd.C_below HR0_0.out HB.out) | (with_reducible refine Kd.C_alloc ?_ _) | (with_reducible refine Kd.C_drewN ?_ _) | (with_reducible refine Kd.C_drew ?_)))
         (case side2 => exact HC0_0.out)
         rintro e w1758 ⟨rfl, hb⟩
         refine ⟨_, rfl, ?_⟩
         replace BK512 := bs_ BK512 hb
         replace BK513 := bs_ BK513 hb
         replace BK520 := bs_ BK520 hb
         replace BK527 := bs_ BK527 hb
         replace BK534 := bs_ BK534 hb
         replace BK541 := bs_ BK541 hb
         replace BK548 := bs_ BK548 hb
         replace BK555 := bs_ BK555 hb
         replace BK562 := bs_ BK562 hb
         replace BK569 := bs_ BK569 hb
         replace BK576 := bs_ BK576 hb
         replace BK583 := bs_ BK583 hb
         replace BK590 := bs_ BK590 hb
         replace BK597 := bs_ BK597 hb
         replace BK604 := bs_ BK604 hb
         replace BK611 := bs_ BK611 hb
         replace BK618 := bs_ BK618 hb
         replace BK625 := bs_ BK625 hb
         replace HB := Aside0.mk (below_step (hB_ HB.out) hb)
         (try clear hb)
         (try clear hb2)
         (try clear hk)
         (try clear hi)
         refine hK.out _ _ ⟨ck_ BK512 0, ck_ BK512 1, ck_ BK512 2, ck_ BK513 0, ck_ BK513 1, ck_ BK513 2, ck_ BK513 3, ck_ BK513 4⟩ (fun hHeld => ?_)
         clear hK K
         refine norm_ (a' := ?_) ?_ ?_
         rotate_left
         ·
          show Act.put _ (some 277) _ = _
          simp only [Act.put, sa_, s0_, s1_, i64_w, i32_w]
          rfl
         refine pA_ 11 278 ?_ (b_ 23 4095) (any_of HT_.out (by kernel_rfl)) rfl rfl (fun _ _ _ h => h) (by rfl) ?_ ?_ ?_ ?_
         rotate_left
         ·
          intro w'
          go_simp
          with_reducible rfl
         rotate_left
         ·
          simp only [Act.put, sa_, s0_, s1_, i64_w, i32_w]
          rfl
         refine pA_ 12 279 ?_ (b_ 23 8191) (any_of HT_.out (by kernel_rfl)) rfl rfl (fun _ _ _ h => h) (by rfl) ?_ ?_ ?_ ?_
         rotate_left
         ·
          intro w'
          go_simp
          with_reducible rfl
         rotate_left
         ·
          simp only [Act.put, sa_, s0_, s1_, i64_w, i32_w]
          rfl
         refine pA_ 13 280 ?_ (b_ 23 16383) (any_of HT_.out (by kernel_rfl)) rfl rfl (fun _ _ _ h => h) (by rfl) ?_ ?_ ?_ ?_
         rotate_left
         ·
          intro w'
          go_simp
          with_reducible rfl
         rotate_left
         ·
          simp only [Act.put, sa_, s0_, s1_, i64_w, i32_w]
          rfl
         refine pA_ 15 282 ?_ (b_ 23 49151) (any_of HT_.out (by kernel_rfl)) rfl rfl (fun _ _ _ h => h) (by rfl) ?_ ?_ ?_ ?_
         rotate_left
         ·
          intro w'
          go_simp
          with_reducible rfl
         rotate_left
         ·
          simp only [Act.put, sa_, s0_, s1_, i64_w, i32_w]
          rfl
         refine pA_ 18 285 ?_ (b_ 23 311295) (any_of HT_.out (by kernel_rfl)) rfl rfl (fun _ _ _ h => h) (by rfl) ?_ ?_ ?_ ?_
         rotate_left
         ·
          intro w'
          go_simp
          with_reducible rfl
         rotate_left
         ·
          simp only [Act.put, sa_, s0_, s1_, i64_w, i32_w]
          rfl
         refine tA_ 14 281 ?_ (b_ 23 327679) (take_ofW HT_.out HW_.out (by kernel_rfl)) rfl rfl (fun _ _ _ h => h) (by rfl) ?_ hHeld ?_ ?_ ?_
         rotate_left
         ·
          rintro w' ⟨s0, s1, s2, s3, s4, s5, s6, s7⟩
          go_simp
          with_reducible rfl
         rotate_left
         ·
          simp only [Act.put, sa_, s0_, s1_, i64_w, i32_w]
          rfl
         refine tA_ 17 284 ?_ (b_ 23 458751) (take_ofW HT_.out HW_.out (by kernel_rfl)) rfl rfl (fun _ _ _ h => h) (by rfl) ?_ hHeld ?_ ?_ ?_
         rotate_left
         ·
          rintro w' ⟨s0, s1, s2, s3, s4, s5, s6, s7⟩
          go_simp
          with_reducible rfl
         rotate_left
         ·
          simp only [Act.put, sa_, s0_, s1_, i64_w, i32_w]
          rfl
         refine one_ (i := 16) (N := some 283) (b_ 23 524287) rfl rfl (one_of HT_.out (by kernel_rfl)) (by decide) (fun K hK => ?_)
         refine goes_ Try.func30 (by kernel_rfl) rfl #[.agg #[.int .u8 a1_0, .int .i64 a1_1, .int .i64 a1_2, .int .i64 a1_3, .int .i64 a1_4], .int .i64 a3] (by rfl) rfl rfl (by (try simp only [List.map_toArray, List.map_cons, List.map_nil]); first | done | rfl | (simp only [List.length_drop, List.length_take]; rfl)) ?_
         with_reducible refine (task_Due.calls a1_0 a1_1 a1_2 a1_3 a1_4 a3 t632 _ A1754.out).mono ?_
         rintro e w1759 ⟨rfl, hb⟩
         refine ⟨_, rfl, ?_⟩
         replace BK512 := bs_ BK512 hb
         replace BK513 := bs_ BK513 hb
         replace BK520 := bs_ BK520 hb
         replace BK527 := bs_ BK527 hb
         replace BK534 := bs_ BK534 hb
         replace BK541 := bs_ BK541 hb
         replace BK548 := bs_ BK548 hb
         replace BK555 := bs_ BK555 hb
         replace BK562 := bs_ BK562 hb
         replace BK569 := bs_ BK569 hb
         replace BK576 := bs_ BK576 hb
         replace BK583 := bs_ BK583 hb
         replace BK590 := bs_ BK590 hb
         replace BK597 := bs_ BK597 hb
         replace BK604 := bs_ BK604 hb
         replace BK611 := bs_ BK611 hb
         replace BK618 := bs_ BK618 hb
         replace BK625 := bs_ BK625 hb
         replace HB := Aside0.mk (below_step (hB_ HB.out) hb)
         (try clear hb)
         (try clear hb2)
         (try clear hk)
         (try clear hi)
         refine hK.out _ _ ⟨ck_ BK512 0, ck_ BK512 1, ck_ BK512 2, ck_ BK513 0, ck_ BK513 1, ck_ BK513 2, ck_ BK513 3, ck_ BK513 4⟩ (fun hHeld => ?_)
         clear hK K
         refine norm_ (a' := ?_) ?_ ?_
         rotate_left
         ·
          show Act.put _ (some 283) _ = _
          simp only [Act.put, sa_, s0_, s1_, i64_w, i32_w]
          rfl
         refine one_ (i := 19) (N := some 286) (b_ 23 1048575) rfl rfl (one_of HT_.out (by kernel_rfl)) (by decide) (fun K hK => ?_)
         refine goes_ Try.func31 (by kernel_rfl) rfl #[.agg #[.int .u8 a1_0, .int .i64 a1_1, .int .i64 a1_2, .int .i64 a1_3, .int .i64 a1_4], .int .i64 a3] (by rfl) rfl rfl (by (try simp only [List.map_toArray, List.map_cons, List.map_nil]); first | done | rfl | (simp only [List.length_drop, List.length_take]; rfl)) ?_
         with_reducible refine (millhandref24_Due.calls a1_0 a1_1 a1_2 a1_3 a1_4 a3 t633 _ A1755.out).mono ?_
         rintro e w1760 ⟨rfl, hb⟩
         refine ⟨_, rfl, ?_⟩
         replace BK512 := bs_ BK512 hb
         replace BK513 := bs_ BK513 hb
         replace BK520 := bs_ BK520 hb
         replace BK527 := bs_ BK527 hb
         replace BK534 := bs_ BK534 hb
         replace BK541 := bs_ BK541 hb
         replace BK548 := bs_ BK548 hb
         replace BK555 := bs_ BK555 hb
         replace BK562 := bs_ BK562 hb
         replace BK569 := bs_ BK569 hb
         replace BK576 := bs_ BK576 hb
         replace BK583 := bs_ BK583 hb
         replace BK590 := bs_ BK590 hb
         replace BK597 := bs_ BK597 hb
         replace BK604 := bs_ BK604 hb
         replace BK611 := bs_ BK611 hb
         replace BK618 := bs_ BK618 hb
         replace BK625 := bs_ BK625 hb
         replace HB := Aside0.mk (below_step (hB_ HB.out) hb)
         (try clear hb)
         (try clear hb2)
         (try clear hk)
         (try clear hi)
         refine hK.out _ _ ⟨ck_ BK512 0, ck_ BK512 1, ck_ BK512 2, ck_ BK513 0, ck_ BK513 1, ck_ BK513 2, ck_ BK513 3, ck_ BK513 4⟩ (fun hHeld => ?_)
         clear hK K
         refine norm_ (a' := ?_) ?_ ?_
         rotate_left
         ·
          show Act.put _ (some 286) _ = _
          simp only [Act.put, sa_, s0_, s1_, i64_w, i32_w]
          rfl
         refine pA_ 20 287 ?_ (b_ 23 2097151) (any_of HT_.out (by kernel_rfl)) rfl rfl (fun _ _ _ h => h) (by rfl) ?_ ?_ ?_ ?_
         rotate_left
         ·
          intro w'
          go_simp
          with_reducible rfl
         rotate_left
         ·
          simp only [Act.put, sa_, s0_, s1_, i64_w, i32_w]
          rfl
         refine pA_ 21 288 ?_ (b_ 23 4194303) (any_of HT_.out (by kernel_rfl)) rfl rfl (fun _ _ _ h => h) (by rfl) ?_ ?_ ?_ ?_
         rotate_left
         ·
          intro w'
          go_simp
          with_reducible rfl
         rotate_left
         ·
          simp only [Act.put, sa_, s0_, s1_, i64_w, i32_w]
          rfl
         refine pA_ 22 8 ?_ (b_ 23 8388607) (any_of HT_.out (by kernel_rfl)) rfl rfl (fun _ _ _ h => h) (by rfl) ?_ ?_ ?_ ?_
         rotate_left
         ·
          intro w'
          go_simp
          with_reducible rfl
         rotate_left
         ·
          simp only [Act.put, sa_, s0_, s1_, i64_w, i32_w]
          rfl
         refine done_ (done_of HT_.out (by kernel_rfl)) ?_
         try go_wp2
         go_ret
         exact ⟨by first | rfl | (simp [errW_none, errW_some] <;> rfl) | (simp [*, errW_none, errW_some] <;> rfl) | exact ret_ie _ | (simp [*, errW_none, errW_some, bne]; done), by repeat (first | (with_reducible first | exact HB.out | apply below_alloc | apply pw_below_drewN | apply below_drew1 | refine below_set ?_ GE512.out | refine below_set ?_ GE513.out | refine below_set ?_ GE520.out | refine below_set ?_ GE527.out | refine below_set ?_ GE534.out | refine below_set ?_ GE541.out | refine below_set ?_ GE548.out | refine below_set ?_ GE555.out | refine below_set ?_ GE562.out | refine below_set ?_ GE569.out | refine below_set ?_ GE576.out | refine below_set ?_ GE583.out | refine below_set ?_ GE590.out | refine below_set ?_ GE597.out | refine below_set ?_ GE604.out | refine below_set ?_ GE611.out | refine below_set ?_ GE618.out | refine below_set ?_ GE625.out) | exact HB.out)⟩
        ·
         exact absurd (same_Check hs0 A1751.out A1752.out) c1753
       ·
        exact absurd (HX_x46.out) c1750
      ·
       exact absurd (HX_x45.out) c1749
end Go.Proofs.Ytbgfjhnbmfgccaa.R
