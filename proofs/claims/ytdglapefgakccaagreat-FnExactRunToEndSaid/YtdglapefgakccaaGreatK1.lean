/- Closed facts of the law's row, part 1. No condition. -/
import Derived.Test.YtdglapefgakccaaGreatV4
import Derived.Test.YtdglapefgakccaaGreatRows
import Derived.Test.YtdglapefgakccaaGreatChecked
import Derived.KernelRfl
set_option linter.unusedVariables false
namespace Go.Proofs.YtdglapefgakccaaGreat.World
open Go Go.V Go.Proofs
open Go.ChangeShapes Go.WideShapes Go.RowKit
set_option maxRecDepth 100000
theorem k1:(YtdglapefgakccaaGreat.Rows.fnExactRunToEndRow.wf (OpenSpec.ofChange YtdglapefgakccaaGreat.Rows.fnExactRunToEndSpec))=true:=by kernel_rfl
theorem k5:(namedTie Tryz.checked.prog YtdglapefgakccaaGreat.Rows.fnExactRunToEndRow.named YtdglapefgakccaaGreat.Rows.fnExactRunToEndSpec.vars)=true:=by kernel_rfl
theorem k9:((Tryz.checked.prog.stopKnobs==[]))=true:=by kernel_rfl
theorem k13:((YtdglapefgakccaaGreat.Rows.fnExactRunToEndRow.named==Tryz.checked.prog.varsNamed 6))=true:=by kernel_rfl
theorem k17:((YtdglapefgakccaaGreat.Rows.fnExactRunToEndRow.loops==(Tryz.f6.params.toList++YtdglapefgakccaaGreat.Rows.fnExactRunToEndSpec.plain.varTypes Tryz.checked.prog).any (Tryz.checked.prog.loopsFrom ·)))=true:=by kernel_rfl
theorem k21:((YtdglapefgakccaaGreat.Rows.fnExactRunToEndRow.ifacesOut==Tryz.f6.resultTypes.toList.any (Tryz.checked.prog.ifacesRec ·)))=true:=by kernel_rfl
theorem k25:(Tryz.checked.prog.stopsHeard)=true:=by kernel_rfl
theorem k29:((YtdglapefgakccaaGreat.Rows.fnExactRunToEndRow.kinds==(if YtdglapefgakccaaGreat.Rows.fnExactRunToEndRow.domain.isEmpty then [] else Tryz.f6.params.toList.map fun t=>match Tryz.checked.prog.underlying t with | some (.int k)=>some k | _=>none)))=true:=by kernel_rfl
theorem k0:YtdglapefgakccaaGreat.Tryz.pinned.checked.prog.funcNamed YtdglapefgakccaaGreat.Rows.fnExactRunToEndRow.func=some 6:=by kernel_rfl
end Go.Proofs.YtdglapefgakccaaGreat.World
