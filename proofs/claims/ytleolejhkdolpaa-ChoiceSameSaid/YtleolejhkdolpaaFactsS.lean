import Derived.Test.YtleolejhkdolpaaSepEq
import Derived.Test.YtleolejhkdolpaaProg
import Derived.KernelRfl
namespace Go.Proofs.Ytleolejhkdolpaa
open Go Go.RowKit Sv
theorem gf_28 : goFunc Try.prog 28 = true := by kernel_rfl
theorem gf_36 : goFunc Try.prog 36 = true := by kernel_rfl
theorem gf_38 : goFunc Try.prog 38 = true := by kernel_rfl
theorem gf_39 : goFunc Try.prog 39 = true := by kernel_rfl
theorem gf_40 : goFunc Try.prog 40 = true := by kernel_rfl
end Go.Proofs.Ytleolejhkdolpaa
