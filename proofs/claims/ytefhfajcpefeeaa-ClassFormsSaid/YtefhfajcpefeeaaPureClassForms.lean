/- ClassForms: what is charged for the examples that the statement names; a closed statement, no condition. -/
import Derived.Test.YtefhfajcpefeeaaKClassFormsCalc
namespace Go.Proofs.Ytefhfajcpefeeaa.Pure
open Go Go.RowKit Go.Proofs.YtefhfajcpefeeaaW.PrintWords Go.Proofs.YtefhfajcpefeeaaW.PrintLast Go.Proofs.YtefhfajcpefeeaaW.PrintMore Go.Proofs.Ytefhfajcpefeeaa.PClassForms

theorem ClassForms : hodmanlaw7_ClassForms.Pure := ⟨80, by decide +kernel⟩

end Go.Proofs.Ytefhfajcpefeeaa.Pure
