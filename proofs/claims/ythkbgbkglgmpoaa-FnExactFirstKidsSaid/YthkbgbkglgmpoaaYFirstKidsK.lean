/- All that the pure text of a law leans on. Conditions: none. -/
import Derived.Test.YthkbgbkglgmpoaaYFirstKids1
import Derived.Test.YthkbgbkglgmpoaaYFirstKids2
import Derived.Test.YthkbgbkglgmpoaaYFirstKids3
import Derived.Test.YthkbgbkglgmpoaaYFirstKids4
import Derived.Test.YthkbgbkglgmpoaaYFirstKids5
import Derived.Test.YthkbgbkglgmpoaaYFirstKidsC
import Derived.Test.YthkbgbkglgmpoaaYFirstKidsWalk
import Derived.Test.YthkbgbkglgmpoaaYFirstKidsMarkB
import Derived.Test.YthkbgbkglgmpoaaYFirstKidsMarkI
import Derived.Test.YthkbgbkglgmpoaaYFirstKidsMarkIntSS
import Derived.Test.YthkbgbkglgmpoaaYFirstKidsMarkMM
import Derived.Test.YthkbgbkglgmpoaaYFirstKidsMarkMachine
import Derived.Test.YthkbgbkglgmpoaaYFirstKidsMarkSM
namespace Go.Proofs.Ythkbgbkglgmpoaa.XA
end Go.Proofs.Ythkbgbkglgmpoaa.XA
