import Derived.Test.YtleolejhkdolpaaSepEq
import Derived.Test.YtleolejhkdolpaaProg
import Derived.KernelRfl
namespace Go.Proofs.Ytleolejhkdolpaa
open Go Go.RowKit Sv
theorem ag_48 : aggT Try.prog 48 = true := by kernel_rfl
theorem ag_50 : aggT Try.prog 50 = true := by kernel_rfl
theorem by_48 : bytesT Try.prog 48 = some 40 := by kernel_rfl
theorem by_5 : bytesT Try.prog 5 = some 1 := by kernel_rfl
theorem fo_46_0 : fieldOff Try.prog 46 0 = some 0 := by kernel_rfl
theorem fo_46_1 : fieldOff Try.prog 46 1 = some 1 := by kernel_rfl
theorem fo_46_2 : fieldOff Try.prog 46 2 = some 2 := by kernel_rfl
theorem fo_48_0 : fieldOff Try.prog 48 0 = some 0 := by kernel_rfl
theorem fo_48_1 : fieldOff Try.prog 48 1 = some 1 := by kernel_rfl
theorem fo_48_2 : fieldOff Try.prog 48 2 = some 2 := by kernel_rfl
theorem fo_50_0 : fieldOff Try.prog 50 0 = some 0 := by kernel_rfl
theorem fo_50_1 : fieldOff Try.prog 50 1 = some 1 := by kernel_rfl
theorem fo_50_2 : fieldOff Try.prog 50 2 = some 4 := by kernel_rfl
theorem fo_92_0 : fieldOff Try.prog 92 0 = some 0 := by kernel_rfl
theorem fo_92_1 : fieldOff Try.prog 92 1 = some 1 := by kernel_rfl
theorem fo_92_2 : fieldOff Try.prog 92 2 = some 2 := by kernel_rfl
theorem gf_12 : goFunc Try.prog 12 = true := by kernel_rfl
theorem gf_13 : goFunc Try.prog 13 = true := by kernel_rfl
theorem gf_14 : goFunc Try.prog 14 = true := by kernel_rfl
theorem gf_15 : goFunc Try.prog 15 = true := by kernel_rfl
theorem gf_16 : goFunc Try.prog 16 = true := by kernel_rfl
theorem gf_17 : goFunc Try.prog 17 = true := by kernel_rfl
theorem gf_18 : goFunc Try.prog 18 = true := by kernel_rfl
theorem gf_19 : goFunc Try.prog 19 = true := by kernel_rfl
theorem gf_20 : goFunc Try.prog 20 = true := by kernel_rfl
theorem gf_21 : goFunc Try.prog 21 = true := by kernel_rfl
theorem gf_22 : goFunc Try.prog 22 = true := by kernel_rfl
theorem gf_23 : goFunc Try.prog 23 = true := by kernel_rfl
theorem gf_24 : goFunc Try.prog 24 = true := by kernel_rfl
theorem gf_28 : goFunc Try.prog 28 = true := by kernel_rfl
theorem gf_43 : goFunc Try.prog 43 = true := by kernel_rfl
theorem gf_45 : goFunc Try.prog 45 = true := by kernel_rfl
theorem gf_46 : goFunc Try.prog 46 = true := by kernel_rfl
theorem gf_47 : goFunc Try.prog 47 = true := by kernel_rfl
theorem gf_48 : goFunc Try.prog 48 = true := by kernel_rfl
theorem gf_49 : goFunc Try.prog 49 = true := by kernel_rfl
theorem gf_50 : goFunc Try.prog 50 = true := by kernel_rfl
theorem gf_66 : goFunc Try.prog 66 = true := by kernel_rfl
theorem gf_67 : goFunc Try.prog 67 = true := by kernel_rfl
theorem sc_22 : scalarT Try.prog 22 = true := by kernel_rfl
theorem sc_24 : scalarT Try.prog 24 = true := by kernel_rfl
theorem sc_3 : scalarT Try.prog 3 = true := by kernel_rfl
theorem sc_44 : scalarT Try.prog 44 = true := by kernel_rfl
theorem sc_5 : scalarT Try.prog 5 = true := by kernel_rfl
theorem sz_24 : sizeT Try.prog 24 = some 1 := by kernel_rfl
theorem sz_3 : sizeT Try.prog 3 = some 1 := by kernel_rfl
theorem sz_44 : sizeT Try.prog 44 = some 1 := by kernel_rfl
theorem sz_48 : sizeT Try.prog 48 = some 3 := by kernel_rfl
theorem sz_5 : sizeT Try.prog 5 = some 1 := by kernel_rfl
theorem sz_50 : sizeT Try.prog 50 = some 5 := by kernel_rfl
theorem ze_48 : zeroT Try.prog 48 = some (Value.agg [(Value.int .i64 0), (Value.int .i64 0), (Value.slice none 0 0)].toArray) := by kernel_rfl
theorem ze_5 : zeroT Try.prog 5 = some (Value.int .u8 0) := by kernel_rfl
theorem ze_50 : zeroT Try.prog 50 = some (Value.agg [(Value.int .i64 0), (Value.int .i64 0), (Value.int .i64 0), (Value.slice none 0 0), (Value.slice none 0 0)].toArray) := by kernel_rfl
end Go.Proofs.Ytleolejhkdolpaa
