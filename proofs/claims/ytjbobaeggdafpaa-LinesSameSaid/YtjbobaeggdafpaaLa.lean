/- Chapter 10: the example; the types that the laws take. -/
import Derived.Test.YtjbobaeggdafpaaKit
import Derived.Test.YtjbobaeggdafpaaQ1
import Derived.Test.YtjbobaeggdafpaaV4
namespace Go.Proofs.Ytjbobaeggdafpaa.Vm
open Go
open _root_.Go.RowKit (wrap64)
abbrev tRng : Ty := .cons (.i .i64) (.cons (.i .i64) (.i .i64))
abbrev tSty : Ty := .cons (.i .i64) (.cons (.i .i64) (.cons (.i .i64) (.cons (.i .i64) (.cons (.i .i64) (.cons (.i .i64) (.cons (.row false tRng) .b))))))
abbrev tRun : Ty := .cons (.i .i64) (.i .i64)
abbrev tLine : Ty := .cons .s (.cons (.row false tRun) (.cons (.i .i64) (.cons (.i .i64) (.cons (.i .i64) (.cons .b (.cons (.i .i64) (.cons .b .b)))))))
abbrev tPara : Ty := .cons .s (.cons (.row false tRun) (.cons (.i .i64) (.cons (.i .i64) (.cons (.i .i64) (.cons (.i .i64) (.cons (.i .i64) (.cons (.i .i64) (.cons (.i .i64) (.i .i64)))))))))
abbrev Lin := ByteArray × List api_Run × Int × Int × Int × Bool × Int × Bool × Bool
theorem awake10_ev : Ev (fun k => regletlaw10_awake.f k) true := Ev.far 300 (fun k => by kernel_rfl)
end Go.Proofs.Ytjbobaeggdafpaa.Vm
