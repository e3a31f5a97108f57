/- Closed facts of the law's row, part 4. No condition. -/
import Derived.Test.YtdglapefgakccaaGreatV4
import Derived.Test.YtdglapefgakccaaGreatRows
import Derived.Test.YtdglapefgakccaaGreatChecked
import Derived.KernelRfl
set_option linter.unusedVariables false
namespace Go.Proofs.YtdglapefgakccaaGreat.World
open Go Go.V Go.Proofs
open Go.ChangeShapes Go.WideShapes Go.RowKit
set_option maxRecDepth 100000
theorem k4:(Tryz.f4.params.all (Tryz.checked.prog.readableRec ·))=true:=by kernel_rfl
theorem k8:((YtdglapefgakccaaGreat.Rows.fnExactFaultOfRow.knobs==[]))=true:=by kernel_rfl
theorem k12:((YtdglapefgakccaaGreat.Rows.fnExactFaultOfRow.recurses==Tryz.checked.prog.recurses 4))=true:=by kernel_rfl
theorem k16:((YtdglapefgakccaaGreat.Rows.fnExactFaultOfRow.mapsOut==Tryz.checked.prog.mapsAmong Tryz.f4.resultTypes.toList))=true:=by kernel_rfl
theorem k20:(Tryz.f4.resultTypes.all (fun t=>Tryz.checked.prog.readableRec t&&decide (t<Tryz.checked.prog.types.size)))=true:=by kernel_rfl
theorem k24:(YtdglapefgakccaaGreat.Rows.fnExactFaultOfRow.shortTexts.isNone)=true:=by kernel_rfl
theorem k28:((Tryz.checked.prog.make==some YtdglapefgakccaaGreat.Rows.fnExactFaultOfRow.make))=true:=by kernel_rfl
theorem k32:(YtdglapefgakccaaGreat.Rows.fnExactFaultOfRow.veiledFits Tryz.checked.prog Tryz.f4.params.toList (Tryz.f4.params.toList++YtdglapefgakccaaGreat.Rows.fnExactFaultOfSpec.plain.varTypes Tryz.checked.prog++Tryz.f4.resultTypes.toList))=true:=by kernel_rfl
end Go.Proofs.YtdglapefgakccaaGreat.World
