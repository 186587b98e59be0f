/- Any text that is read is the date of the time that it is; with one byte turned it is none, or another time's. No condition. -/
import Derived.Test.YtiaiengdncdiaaaM1
namespace Go.Proofs.Ytiaiengdncdiaaa.Pure
open Go.RowKit Go.Proofs.Ytiaiengdncdiaaa.PAll
theorem DateReads : pantrylaw02_DateReads.Pure := law_DateReads
end Go.Proofs.Ytiaiengdncdiaaa.Pure
