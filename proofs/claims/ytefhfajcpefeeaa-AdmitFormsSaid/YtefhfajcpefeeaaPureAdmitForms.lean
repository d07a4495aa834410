/- AdmitForms: who is let in at the examples that the statement names; a closed statement, no condition. -/
import Derived.Test.YtefhfajcpefeeaaKAdmitFormsCalc
namespace Go.Proofs.Ytefhfajcpefeeaa.Pure
open Go Go.RowKit Go.Proofs.YtefhfajcpefeeaaW.PrintWords Go.Proofs.YtefhfajcpefeeaaW.PrintLast Go.Proofs.YtefhfajcpefeeaaW.PrintMore Go.Proofs.Ytefhfajcpefeeaa.PAdmitForms

theorem AdmitForms : hodmanlaw16_AdmitForms.Pure := ⟨80, by decide +kernel⟩

end Go.Proofs.Ytefhfajcpefeeaa.Pure
