/- Proves that FnExactConstants of the program answers true: every constant that it holds against a number is that number. No condition. -/
import Derived.Test.YtcpdeenhjodmfaaPFnExactConstantsx1
namespace Go.Proofs.Ytcpdeenhjodmfaa.Pure
open Go.RowKit Go.Proofs.Ytcpdeenhjodmfaa.PFnExactConstants Go.Proofs.YtcpdeenhjodmfaaW.PrintWords Go.Proofs.YtcpdeenhjodmfaaW.PrintLast

theorem FnExactConstants : laws_FnExactConstants.Pure := by
  unfold laws_FnExactConstants.Pure laws_FnExactConstants.f
  simp

end Go.Proofs.Ytcpdeenhjodmfaa.Pure
