/- The page's example holds. -/
import Derived.Test.YtdkmmddakidieaaPx8
import Derived.Test.YtdkmmddakidieaaEvKit
namespace Go.Proofs.Ytdkmmddakidieaa.P
open Go.RowKit Go.Proofs.YtdkmmddakidieaaW.PrintWords Go.Proofs.YtdkmmddakidieaaW.PrintLast Go.Proofs.YtdkmmddakidieaaW.PrintMore
theorem awake_ev : Ev (fun k => regletlaw08_awake.f k) true := Ev.of regletlaw08_awake.mono (k := 80) (by decide +kernel)
end Go.Proofs.Ytdkmmddakidieaa.P
