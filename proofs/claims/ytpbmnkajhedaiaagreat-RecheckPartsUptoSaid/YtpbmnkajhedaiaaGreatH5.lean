/- A run of the kernel over some functions. Conditions: none. -/
import Derived.Test.YtpbmnkajhedaiaaGreatHj
set_option linter.all false
namespace Go.Proofs.YtpbmnkajhedaiaaGreat.Ht
open Go Go.Am Go.Proofs Go.Am.Tt
theorem zF5:oJ EE Tryz.prog TT zEH zEy qV4=true:=by kernel_rfl
end Go.Proofs.YtpbmnkajhedaiaaGreat.Ht
