/- A day later the date is the next day's. No condition. -/
import Derived.Test.YtiaiengdncdiaaaM1
namespace Go.Proofs.Ytiaiengdncdiaaa.Pure
open Go.RowKit Go.Proofs.Ytiaiengdncdiaaa.PAll
theorem DateOrder : pantrylaw02_DateOrder.Pure := law_DateOrder
end Go.Proofs.Ytiaiengdncdiaaa.Pure
