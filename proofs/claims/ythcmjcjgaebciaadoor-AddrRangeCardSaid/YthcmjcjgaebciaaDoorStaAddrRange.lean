/- The plain statement of the law AddrRange: no memory, no machine. -/
import Derived.Test.YthcmjcjgaebciaaDoorFx18
namespace Go.Proofs.YthcmjcjgaebciaaDoor.T
open Go.RowKit Go.Proofs.YthcmjcjgaebciaaDoorW.PrintWords Go.Proofs.YthcmjcjgaebciaaDoorW.PrintLast Go.Proofs.YthcmjcjgaebciaaDoorW.PrintMore
def triviumlaw18_AddrRange.Pure : Prop := ∀ (a0_0 : Int) (a0_1 : Int) (a1_0 : Int) (a1_1 : Int) (a2 : Int), (Lit.int .u32 a0_0).wf = true → (Lit.int .i64 a0_1).wf = true → (Lit.int .u32 a1_0).wf = true → (Lit.int .i64 a1_1).wf = true → (Lit.int .u32 a2).wf = true → ∃ k, triviumlaw18_AddrRange.f k a0_0 a0_1 a1_0 a1_1 a2 = some true
end Go.Proofs.YthcmjcjgaebciaaDoor.T
