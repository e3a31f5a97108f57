/- Closed facts of the law's row, part 4. No condition. -/
import Derived.Test.YtdglapefgakccaaGreatV4
import Derived.Test.YtdglapefgakccaaGreatRows
import Derived.Test.YtdglapefgakccaaGreatChecked
import Derived.KernelRfl
set_option linter.unusedVariables false
namespace Go.Proofs.YtdglapefgakccaaGreat.World
open Go Go.V Go.Proofs
open Go.ChangeShapes Go.WideShapes Go.RowKit
set_option maxRecDepth 100000
theorem k4:(Tryz.f6.params.all (Tryz.checked.prog.readableRec ·))=true:=by kernel_rfl
theorem k8:((YtdglapefgakccaaGreat.Rows.fnExactRunToEndRow.knobs==[]))=true:=by kernel_rfl
theorem k12:((YtdglapefgakccaaGreat.Rows.fnExactRunToEndRow.recurses==Tryz.checked.prog.recurses 6))=true:=by kernel_rfl
theorem k16:((YtdglapefgakccaaGreat.Rows.fnExactRunToEndRow.mapsOut==Tryz.checked.prog.mapsAmong Tryz.f6.resultTypes.toList))=true:=by kernel_rfl
theorem k20:(Tryz.f6.resultTypes.all (fun t=>Tryz.checked.prog.readableRec t&&decide (t<Tryz.checked.prog.types.size)))=true:=by kernel_rfl
theorem k24:(YtdglapefgakccaaGreat.Rows.fnExactRunToEndRow.shortTexts.isNone)=true:=by kernel_rfl
theorem k28:((Tryz.checked.prog.make==some YtdglapefgakccaaGreat.Rows.fnExactRunToEndRow.make))=true:=by kernel_rfl
theorem k32:(YtdglapefgakccaaGreat.Rows.fnExactRunToEndRow.veiledFits Tryz.checked.prog Tryz.f6.params.toList (Tryz.f6.params.toList++YtdglapefgakccaaGreat.Rows.fnExactRunToEndSpec.plain.varTypes Tryz.checked.prog++Tryz.f6.resultTypes.toList))=true:=by kernel_rfl
end Go.Proofs.YtdglapefgakccaaGreat.World
