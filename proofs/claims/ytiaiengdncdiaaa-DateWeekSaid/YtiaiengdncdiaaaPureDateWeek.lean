/- The day of the week is the same seven days later, and another one each day between; the clock is the same. No condition. -/
import Derived.Test.YtiaiengdncdiaaaM1
namespace Go.Proofs.Ytiaiengdncdiaaa.Pure
open Go.RowKit Go.Proofs.Ytiaiengdncdiaaa.PAll
theorem DateWeek : pantrylaw02_DateWeek.Pure := law_DateWeek
end Go.Proofs.Ytiaiengdncdiaaa.Pure
