/- A run of the kernel over some functions. Conditions: none. -/
import Derived.Test.YtpbmnkajhedaiaaGreatHj
set_option linter.all false
namespace Go.Proofs.YtpbmnkajhedaiaaGreat.Ht
open Go Go.Am Go.Proofs Go.Am.Tt
theorem zGa:oJ EE Tryz.prog TT zCi zCh qV9=true:=by kernel_rfl
end Go.Proofs.YtpbmnkajhedaiaaGreat.Ht
