/- Copies: a []byte joined of two, a []string copied: they read as what they were made of, in new memory. -/
import Derived.Test.YtbcoecmeoemmeaaDoorBase
namespace Go.Proofs.YtbcoecmeoemmeaaDoor
open Go.ChangeShapes Go.WideShapes Go.ChangeAt Go.RowKit
set_option linter.unusedVariables false
theorem elemByte : Elem1 Tryd.prog 33 5 1 := elem1 (z := .int .u8 0) Tryd.underlying33 (by kernel_rfl) rfl
theorem elemStr : Elem1 Tryd.prog 60 9 16 := elem1 (z := .string ByteArray.empty) Tryd.underlying60 (by kernel_rfl) rfl
def encS (s : ByteArray) : Value := .string s
theorem encB_one (b : UInt8) : (encB b).oneCell' = true := rfl
theorem encS_one (b : ByteArray) : (encS b).oneCell' = true := rfl
abbrev RTexts := RVec encS 16
abbrev OwnB := OwnVec encB 5
abbrev OwnS := OwnVec encS 9

end Go.Proofs.YtbcoecmeoemmeaaDoor
