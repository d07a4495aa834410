/- AdmitAll: texts of the proof (T1); no condition. -/
import Derived.Test.YtefhfajcpefeeaaAdmitAllb
import Derived.KernelRfl
set_option linter.unusedSimpArgs false
set_option linter.unusedVariables false
set_option linter.unusedVariables false
set_option maxRecDepth 100000
namespace Go.Proofs.D
open Go
/- 36 hodman/hodmanref1.Anew -/
def hodmanref1_Anew.d : DFn := { ntmps := 19, res := [.t 8, .t 9], body := (.seq (.region [⟨0, some 4, .boxv 18 [] (.t 0) 8, none⟩,
    ⟨1, some 8, .move (.k (.c (.int .i64 0))), none⟩,
    ⟨2, some 9, .move (.k (.c (.int .i64 0))), none⟩]) (.seq (.region [⟨0, some 10, .ldL 4 18 (.agg [.int .i64, .int .i64, .int .i64, .int .i64, .int .i64, .int .i64, .int .i64, .int .i64]), none⟩,
    ⟨1, some 11, .move (.t 1), none⟩,
    ⟨2, some 12, .move (.t 2), none⟩,
    ⟨3, some 13, .bin .sub .i64 (.t 11) (.t 12), none⟩,
    ⟨4, some 14, .move (.t 3), none⟩,
    ⟨5, some 15, .call 32 [.t 10, .t 13, .t 14, .k (.c (.int .i64 1))] [.c (.int .i64), .c (.int .i64)], none⟩,
    ⟨6, some 16, .ext 15 0, none⟩,
    ⟨7, some 17, .ext 15 1, none⟩,
    ⟨8, some 8, .move (.t 16), none⟩,
    ⟨9, some 9, .move (.t 17), none⟩]) .ret)) }
def hodmanref1_Anew.f (M : Mach) (C : Call) (c0_0 : Int) (c0_1 : Int) (c0_2 : Int) (c0_3 : Int) (c0_4 : Int) (c0_5 : Int) (c0_6 : Int) (c0_7 : Int) (live1 : Int) (old2 : Int) (s3 : Int) (G : GH) : Option Res := (C hodmanref1_New.id [.agg [.int .i64 c0_0, .int .i64 c0_1, .int .i64 c0_2, .int .i64 c0_3, .int .i64 c0_4, .int .i64 c0_5, .int .i64 c0_6, .int .i64 c0_7], .c (.int .i64 (IntKind.i64.wrap (live1 - old2))), .c (.int .i64 s3), .c (.int .i64 1)] G).bind fun qr_1 => (((qr_1.1[0]?).bind V1.c?).bind (Cell.asI .i64)).bind fun qx_2 => (((qr_1.1[1]?).bind V1.c?).bind (Cell.asI .i64)).bind fun qx_3 => some ([.c (.int .i64 qx_2), .c (.int .i64 qx_3)], qr_1.2)
theorem hodmanref1_Anew.eq (M : Mach) (C : Call) (c0_0 : Int) (c0_1 : Int) (c0_2 : Int) (c0_3 : Int) (c0_4 : Int) (c0_5 : Int) (c0_6 : Int) (c0_7 : Int) (live1 : Int) (old2 : Int) (s3 : Int) (G : GH) : runF M C hodmanref1_Anew.d [.agg [.int .i64 c0_0, .int .i64 c0_1, .int .i64 c0_2, .int .i64 c0_3, .int .i64 c0_4, .int .i64 c0_5, .int .i64 c0_6, .int .i64 c0_7], .c (.int .i64 live1), .c (.int .i64 old2), .c (.int .i64 s3)] G = hodmanref1_Anew.f M C c0_0 c0_1 c0_2 c0_3 c0_4 c0_5 c0_6 c0_7 live1 old2 s3 G := by kernel_rfl

/- 35 hodman/admit.Anew -/
def admit_Anew.d : DFn := { ntmps := 19, res := [.t 8, .t 9], body := (.seq (.region [⟨0, some 4, .boxv 18 [] (.t 0) 8, none⟩,
    ⟨1, some 8, .move (.k (.c (.int .i64 0))), none⟩,
    ⟨2, some 9, .move (.k (.c (.int .i64 0))), none⟩]) (.seq (.region [⟨0, some 10, .ldL 4 18 (.agg [.int .i64, .int .i64, .int .i64, .int .i64, .int .i64, .int .i64, .int .i64, .int .i64]), none⟩,
    ⟨1, some 11, .move (.t 1), none⟩,
    ⟨2, some 12, .move (.t 2), none⟩,
    ⟨3, some 13, .bin .sub .i64 (.t 11) (.t 12), none⟩,
    ⟨4, some 14, .move (.t 3), none⟩,
    ⟨5, some 15, .call 31 [.t 10, .t 13, .t 14, .k (.c (.int .i64 1))] [.c (.int .i64), .c (.int .i64)], none⟩,
    ⟨6, some 16, .ext 15 0, none⟩,
    ⟨7, some 17, .ext 15 1, none⟩,
    ⟨8, some 8, .move (.t 16), none⟩,
    ⟨9, some 9, .move (.t 17), none⟩]) .ret)) }
def admit_Anew.f (M : Mach) (C : Call) (c0_0 : Int) (c0_1 : Int) (c0_2 : Int) (c0_3 : Int) (c0_4 : Int) (c0_5 : Int) (c0_6 : Int) (c0_7 : Int) (live1 : Int) (old2 : Int) (s3 : Int) (G : GH) : Option Res := (C admit_New.id [.agg [.int .i64 c0_0, .int .i64 c0_1, .int .i64 c0_2, .int .i64 c0_3, .int .i64 c0_4, .int .i64 c0_5, .int .i64 c0_6, .int .i64 c0_7], .c (.int .i64 (IntKind.i64.wrap (live1 - old2))), .c (.int .i64 s3), .c (.int .i64 1)] G).bind fun qr_1 => (((qr_1.1[0]?).bind V1.c?).bind (Cell.asI .i64)).bind fun qx_2 => (((qr_1.1[1]?).bind V1.c?).bind (Cell.asI .i64)).bind fun qx_3 => some ([.c (.int .i64 qx_2), .c (.int .i64 qx_3)], qr_1.2)
theorem admit_Anew.eq (M : Mach) (C : Call) (c0_0 : Int) (c0_1 : Int) (c0_2 : Int) (c0_3 : Int) (c0_4 : Int) (c0_5 : Int) (c0_6 : Int) (c0_7 : Int) (live1 : Int) (old2 : Int) (s3 : Int) (G : GH) : runF M C admit_Anew.d [.agg [.int .i64 c0_0, .int .i64 c0_1, .int .i64 c0_2, .int .i64 c0_3, .int .i64 c0_4, .int .i64 c0_5, .int .i64 c0_6, .int .i64 c0_7], .c (.int .i64 live1), .c (.int .i64 old2), .c (.int .i64 s3)] G = admit_Anew.f M C c0_0 c0_1 c0_2 c0_3 c0_4 c0_5 c0_6 c0_7 live1 old2 s3 G := by kernel_rfl
end Go.Proofs.D
