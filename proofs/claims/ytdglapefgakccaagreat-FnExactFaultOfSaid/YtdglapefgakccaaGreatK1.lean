/- Closed facts of the law's row, part 1. No condition. -/
import Derived.Test.YtdglapefgakccaaGreatV4
import Derived.Test.YtdglapefgakccaaGreatRows
import Derived.Test.YtdglapefgakccaaGreatChecked
import Derived.KernelRfl
set_option linter.unusedVariables false
namespace Go.Proofs.YtdglapefgakccaaGreat.World
open Go Go.V Go.Proofs
open Go.ChangeShapes Go.WideShapes Go.RowKit
set_option maxRecDepth 100000
theorem k1:(YtdglapefgakccaaGreat.Rows.fnExactFaultOfRow.wf (OpenSpec.ofChange YtdglapefgakccaaGreat.Rows.fnExactFaultOfSpec))=true:=by kernel_rfl
theorem k5:(namedTie Tryz.checked.prog YtdglapefgakccaaGreat.Rows.fnExactFaultOfRow.named YtdglapefgakccaaGreat.Rows.fnExactFaultOfSpec.vars)=true:=by kernel_rfl
theorem k9:((Tryz.checked.prog.stopKnobs==[]))=true:=by kernel_rfl
theorem k13:((YtdglapefgakccaaGreat.Rows.fnExactFaultOfRow.named==Tryz.checked.prog.varsNamed 4))=true:=by kernel_rfl
theorem k17:((YtdglapefgakccaaGreat.Rows.fnExactFaultOfRow.loops==(Tryz.f4.params.toList++YtdglapefgakccaaGreat.Rows.fnExactFaultOfSpec.plain.varTypes Tryz.checked.prog).any (Tryz.checked.prog.loopsFrom ·)))=true:=by kernel_rfl
theorem k21:((YtdglapefgakccaaGreat.Rows.fnExactFaultOfRow.ifacesOut==Tryz.f4.resultTypes.toList.any (Tryz.checked.prog.ifacesRec ·)))=true:=by kernel_rfl
theorem k25:(Tryz.checked.prog.stopsHeard)=true:=by kernel_rfl
theorem k29:((YtdglapefgakccaaGreat.Rows.fnExactFaultOfRow.kinds==(if YtdglapefgakccaaGreat.Rows.fnExactFaultOfRow.domain.isEmpty then [] else Tryz.f4.params.toList.map fun t=>match Tryz.checked.prog.underlying t with | some (.int k)=>some k | _=>none)))=true:=by kernel_rfl
theorem k0:YtdglapefgakccaaGreat.Tryz.pinned.checked.prog.funcNamed YtdglapefgakccaaGreat.Rows.fnExactFaultOfRow.func=some 4:=by kernel_rfl
end Go.Proofs.YtdglapefgakccaaGreat.World
