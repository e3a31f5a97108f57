/- Closed facts of the law's row, part 3. No condition. -/
import Derived.Test.YtdglapefgakccaaGreatV4
import Derived.Test.YtdglapefgakccaaGreatRows
import Derived.Test.YtdglapefgakccaaGreatChecked
import Derived.KernelRfl
set_option linter.unusedVariables false
namespace Go.Proofs.YtdglapefgakccaaGreat.World
open Go Go.V Go.Proofs
open Go.ChangeShapes Go.WideShapes Go.RowKit
set_option maxRecDepth 100000
theorem k3:(mapsRowed Tryz.checked.prog)=true:=by kernel_rfl
theorem k7:((Tryz.checked.prog.stops==[]))=true:=by kernel_rfl
theorem k11:((YtdglapefgakccaaGreat.Rows.fnExactRunToEndRow.unfollowed==Tryz.checked.prog.unfollowed 6))=true:=by kernel_rfl
theorem k15:((YtdglapefgakccaaGreat.Rows.fnExactRunToEndRow.ifaces==(Tryz.f6.params.toList++YtdglapefgakccaaGreat.Rows.fnExactRunToEndSpec.plain.varTypes Tryz.checked.prog).any (Tryz.checked.prog.ifacesRec ·)))=true:=by kernel_rfl
theorem k19:(YtdglapefgakccaaGreat.Rows.fnExactRunToEndSpec.vars.all (Tryz.checked.prog.varReadable ·))=true:=by kernel_rfl
theorem k23:((YtdglapefgakccaaGreat.Rows.fnExactRunToEndRow.plainKeys==Tryz.checked.prog.plainKeys))=true:=by kernel_rfl
theorem k27:((YtdglapefgakccaaGreat.Rows.fnExactRunToEndRow.lifted==Tryz.checked.prog.liftsFinal))=true:=by kernel_rfl
theorem k31:((YtdglapefgakccaaGreat.Rows.fnExactRunToEndRow.veiled==(Tryz.f6.params.toList++YtdglapefgakccaaGreat.Rows.fnExactRunToEndSpec.plain.varTypes Tryz.checked.prog++Tryz.f6.resultTypes.toList).any (Tryz.checked.prog.veiledRec ·)))=true:=by kernel_rfl
end Go.Proofs.YtdglapefgakccaaGreat.World
