/- The plain statement of the law FnExactConstants holds for every input. -/
import Derived.Test.YtcclnblabaoofaaF1
set_option linter.unusedVariables false
set_option linter.unusedSimpArgs false
namespace Go.Proofs.Ytcclnblabaoofaa.Sm
open List
end Go.Proofs.Ytcclnblabaoofaa.Sm
namespace Go.Proofs.Ytcclnblabaoofaa.R
open Go.RowKit Go.Proofs.YtcclnblabaoofaaW.PrintWords Go.Proofs.YtcclnblabaoofaaW.PrintLast Go.Proofs.YtcclnblabaoofaaW.PrintMore Go.Proofs.Ytcclnblabaoofaa.F Go.Proofs.Ytcclnblabaoofaa.Sm
theorem FnExactConstants : laws_FnExactConstants.Pure := rfl
end Go.Proofs.Ytcclnblabaoofaa.R
namespace Go.Proofs.Ytcclnblabaoofaa.Pure
theorem FnExactConstants : Go.Proofs.Ytcclnblabaoofaa.F.laws_FnExactConstants.Pure := Go.Proofs.Ytcclnblabaoofaa.R.FnExactConstants
end Go.Proofs.Ytcclnblabaoofaa.Pure
