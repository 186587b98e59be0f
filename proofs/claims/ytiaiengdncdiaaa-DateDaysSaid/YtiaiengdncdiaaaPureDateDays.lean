/- Any month has the document's days; a month's days are those that its times have. No condition. -/
import Derived.Test.YtiaiengdncdiaaaM1
namespace Go.Proofs.Ytiaiengdncdiaaa.Pure
open Go.RowKit Go.Proofs.Ytiaiengdncdiaaa.PAll
theorem DateDays : pantrylaw02_DateDays.Pure := law_DateDays
end Go.Proofs.Ytiaiengdncdiaaa.Pure
