/- Any time has the document's day and date; what is none is refused. No condition. -/
import Derived.Test.YtiaiengdncdiaaaM1
namespace Go.Proofs.Ytiaiengdncdiaaa.Pure
open Go.RowKit Go.Proofs.Ytiaiengdncdiaaa.PAll
theorem DateShows : pantrylaw02_DateShows.Pure := law_DateShows
end Go.Proofs.Ytiaiengdncdiaaa.Pure
