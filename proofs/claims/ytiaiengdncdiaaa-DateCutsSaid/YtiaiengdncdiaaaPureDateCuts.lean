/- A date that is cut off, or has anything behind it, is none. No condition. -/
import Derived.Test.YtiaiengdncdiaaaM1
namespace Go.Proofs.Ytiaiengdncdiaaa.Pure
open Go.RowKit Go.Proofs.Ytiaiengdncdiaaa.PAll
theorem DateCuts : pantrylaw02_DateCuts.Pure := law_DateCuts
end Go.Proofs.Ytiaiengdncdiaaa.Pure
