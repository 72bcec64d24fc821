/- The given program's constants have the values that the document names: the law answers true. No condition. -/
import Derived.Test.YtjajepomgbpjpaaPFnExactConstantsx1
namespace Go.Proofs.Ytjajepomgbpjpaa.Pure
open Go.RowKit Go.Proofs.Ytjajepomgbpjpaa.PFnExactConstants Go.Proofs.YtjajepomgbpjpaaW.PrintWords Go.Proofs.YtjajepomgbpjpaaW.PrintLast

theorem FnExactConstants : laws_FnExactConstants.Pure := rfl

end Go.Proofs.Ytjajepomgbpjpaa.Pure
