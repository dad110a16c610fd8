/- Copies: a []byte joined of two, a []string copied: they read as what they were made of, in new memory. -/
import Derived.Test.YtnjcboigphdjmaaBase
namespace Go.Proofs.Ytnjcboigphdjmaa
open Go.ChangeShapes Go.WideShapes Go.ChangeAt Go.RowKit
set_option linter.unusedVariables false
def encS (s : ByteArray) : Value := .string s
theorem encB_one (b : UInt8) : (encB b).oneCell' = true := rfl
theorem encS_one (b : ByteArray) : (encS b).oneCell' = true := rfl
abbrev RTexts := RVec encS 16
abbrev OwnB := OwnVec encB 5
abbrev OwnS := OwnVec encS 9

end Go.Proofs.Ytnjcboigphdjmaa
