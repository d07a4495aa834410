/- CalcForms: the edges that the statement names come to what it says; a closed statement, no condition. -/
import Derived.Test.YtikonphhbfilfaaKCalcFormsCalc
namespace Go.Proofs.Ytikonphhbfilfaa.Pure
open Go Go.RowKit Go.Proofs.YtikonphhbfilfaaW.PrintWords Go.Proofs.YtikonphhbfilfaaW.PrintLast Go.Proofs.YtikonphhbfilfaaW.PrintMore Go.Proofs.Ytikonphhbfilfaa.PCalcForms

theorem CalcForms : hodmanlaw1_CalcForms.Pure := ⟨80, by decide +kernel⟩

end Go.Proofs.Ytikonphhbfilfaa.Pure
