import Derived.Test.YtleolejhkdolpaaSepEq
import Derived.Test.YtleolejhkdolpaaProg
import Derived.KernelRfl
namespace Go.Proofs.Ytleolejhkdolpaa
open Go Go.RowKit Sv
theorem ag_26 : aggT Try.prog 26 = true := by kernel_rfl
theorem ag_34 : aggT Try.prog 34 = true := by kernel_rfl
theorem ag_38 : aggT Try.prog 38 = true := by kernel_rfl
theorem ag_90 : aggT Try.prog 90 = true := by kernel_rfl
theorem by_3 : bytesT Try.prog 3 = some 8 := by kernel_rfl
theorem by_5 : bytesT Try.prog 5 = some 1 := by kernel_rfl
theorem ei_38 : eqInts Try.prog .i64 38 = true := by kernel_rfl
theorem fo_26_0 : fieldOff Try.prog 26 0 = some 0 := by kernel_rfl
theorem fo_26_1 : fieldOff Try.prog 26 1 = some 1 := by kernel_rfl
theorem fo_26_2 : fieldOff Try.prog 26 2 = some 2 := by kernel_rfl
theorem fo_26_3 : fieldOff Try.prog 26 3 = some 3 := by kernel_rfl
theorem fo_26_4 : fieldOff Try.prog 26 4 = some 4 := by kernel_rfl
theorem fo_26_5 : fieldOff Try.prog 26 5 = some 5 := by kernel_rfl
theorem fo_34_0 : fieldOff Try.prog 34 0 = some 0 := by kernel_rfl
theorem fo_34_1 : fieldOff Try.prog 34 1 = some 1 := by kernel_rfl
theorem fo_34_2 : fieldOff Try.prog 34 2 = some 2 := by kernel_rfl
theorem fo_34_3 : fieldOff Try.prog 34 3 = some 3 := by kernel_rfl
theorem fo_34_4 : fieldOff Try.prog 34 4 = some 4 := by kernel_rfl
theorem fo_34_5 : fieldOff Try.prog 34 5 = some 5 := by kernel_rfl
theorem fo_34_6 : fieldOff Try.prog 34 6 = some 6 := by kernel_rfl
theorem fo_38_0 : fieldOff Try.prog 38 0 = some 0 := by kernel_rfl
theorem fo_38_1 : fieldOff Try.prog 38 1 = some 1 := by kernel_rfl
theorem fo_38_2 : fieldOff Try.prog 38 2 = some 2 := by kernel_rfl
theorem fo_88_0 : fieldOff Try.prog 88 0 = some 0 := by kernel_rfl
theorem fo_88_1 : fieldOff Try.prog 88 1 = some 1 := by kernel_rfl
theorem fo_88_2 : fieldOff Try.prog 88 2 = some 2 := by kernel_rfl
theorem fo_88_3 : fieldOff Try.prog 88 3 = some 3 := by kernel_rfl
theorem fo_88_4 : fieldOff Try.prog 88 4 = some 4 := by kernel_rfl
theorem fo_88_5 : fieldOff Try.prog 88 5 = some 5 := by kernel_rfl
theorem gf_10 : goFunc Try.prog 10 = true := by kernel_rfl
theorem gf_11 : goFunc Try.prog 11 = true := by kernel_rfl
theorem gf_37 : goFunc Try.prog 37 = true := by kernel_rfl
theorem gf_41 : goFunc Try.prog 41 = true := by kernel_rfl
theorem gf_42 : goFunc Try.prog 42 = true := by kernel_rfl
theorem gf_43 : goFunc Try.prog 43 = true := by kernel_rfl
theorem gf_44 : goFunc Try.prog 44 = true := by kernel_rfl
theorem gf_57 : goFunc Try.prog 57 = true := by kernel_rfl
theorem gf_58 : goFunc Try.prog 58 = true := by kernel_rfl
theorem gf_59 : goFunc Try.prog 59 = true := by kernel_rfl
theorem gf_60 : goFunc Try.prog 60 = true := by kernel_rfl
theorem gf_61 : goFunc Try.prog 61 = true := by kernel_rfl
theorem gf_62 : goFunc Try.prog 62 = true := by kernel_rfl
theorem gf_63 : goFunc Try.prog 63 = true := by kernel_rfl
theorem gf_64 : goFunc Try.prog 64 = true := by kernel_rfl
theorem gf_65 : goFunc Try.prog 65 = true := by kernel_rfl
theorem gf_69 : goFunc Try.prog 69 = true := by kernel_rfl
theorem gf_7 : goFunc Try.prog 7 = true := by kernel_rfl
theorem gf_70 : goFunc Try.prog 70 = true := by kernel_rfl
theorem gf_71 : goFunc Try.prog 71 = true := by kernel_rfl
theorem gf_8 : goFunc Try.prog 8 = true := by kernel_rfl
theorem gf_9 : goFunc Try.prog 9 = true := by kernel_rfl
theorem sc_22 : scalarT Try.prog 22 = true := by kernel_rfl
theorem sc_23 : scalarT Try.prog 23 = true := by kernel_rfl
theorem sc_24 : scalarT Try.prog 24 = true := by kernel_rfl
theorem sc_3 : scalarT Try.prog 3 = true := by kernel_rfl
theorem sc_5 : scalarT Try.prog 5 = true := by kernel_rfl
theorem sc_86 : scalarT Try.prog 86 = true := by kernel_rfl
theorem sz_116 : sizeT Try.prog 116 = some 3 := by kernel_rfl
theorem sz_26 : sizeT Try.prog 26 = some 6 := by kernel_rfl
theorem sz_3 : sizeT Try.prog 3 = some 1 := by kernel_rfl
theorem sz_34 : sizeT Try.prog 34 = some 7 := by kernel_rfl
theorem sz_38 : sizeT Try.prog 38 = some 3 := by kernel_rfl
theorem sz_5 : sizeT Try.prog 5 = some 1 := by kernel_rfl
theorem sz_90 : sizeT Try.prog 90 = some 2 := by kernel_rfl
theorem ze_116 : zeroT Try.prog 116 = some (Value.agg [(Value.int .i64 0), (Value.int .i64 0), (Value.int .i64 0)].toArray) := by kernel_rfl
theorem ze_22 : zeroT Try.prog 22 = some (Value.slice none 0 0) := by kernel_rfl
theorem ze_3 : zeroT Try.prog 3 = some (Value.int .i64 0) := by kernel_rfl
theorem ze_34 : zeroT Try.prog 34 = some (Value.agg [(Value.int .i64 0), (Value.int .i64 0), (Value.int .i64 0), (Value.int .i64 0), (Value.int .i64 0), (Value.int .i64 0), (Value.int .i64 0)].toArray) := by kernel_rfl
theorem ze_38 : zeroT Try.prog 38 = some (Value.agg [(Value.int .i64 0), (Value.int .i64 0), (Value.int .i64 0)].toArray) := by kernel_rfl
theorem ze_5 : zeroT Try.prog 5 = some (Value.int .u8 0) := by kernel_rfl
theorem ze_90 : zeroT Try.prog 90 = some (Value.agg [(Value.int .i64 0), (Value.int .i64 0)].toArray) := by kernel_rfl
end Go.Proofs.Ytleolejhkdolpaa
