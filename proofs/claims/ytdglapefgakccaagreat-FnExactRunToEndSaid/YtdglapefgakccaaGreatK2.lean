/- Closed facts of the law's row, part 2. No condition. -/
import Derived.Test.YtdglapefgakccaaGreatV4
import Derived.Test.YtdglapefgakccaaGreatRows
import Derived.Test.YtdglapefgakccaaGreatChecked
import Derived.KernelRfl
set_option linter.unusedVariables false
namespace Go.Proofs.YtdglapefgakccaaGreat.World
open Go Go.V Go.Proofs
open Go.ChangeShapes Go.WideShapes Go.RowKit
set_option maxRecDepth 100000
theorem k2:(laidOutB Tryz.checked.prog)=true:=by kernel_rfl
theorem k6:((YtdglapefgakccaaGreat.Rows.fnExactRunToEndRow.stops==[]))=true:=by kernel_rfl
theorem k10:((YtdglapefgakccaaGreat.Rows.fnExactRunToEndRow.inPlace==Tryz.checked.prog.inPlace 6))=true:=by kernel_rfl
theorem k14:((YtdglapefgakccaaGreat.Rows.fnExactRunToEndRow.maps==(Tryz.f6.params.toList++YtdglapefgakccaaGreat.Rows.fnExactRunToEndSpec.plain.varTypes Tryz.checked.prog).any (Tryz.checked.prog.mapsRec ·)))=true:=by kernel_rfl
theorem k18:((YtdglapefgakccaaGreat.Rows.fnExactRunToEndRow.wideKeys==(Tryz.f6.params.toList++YtdglapefgakccaaGreat.Rows.fnExactRunToEndSpec.plain.varTypes Tryz.checked.prog++Tryz.f6.resultTypes.toList).any (Tryz.checked.prog.wideKeysFrom ·)))=true:=by kernel_rfl
theorem k22:((YtdglapefgakccaaGreat.Rows.fnExactRunToEndRow.loopsOut==Tryz.f6.resultTypes.toList.any (Tryz.checked.prog.loopsFrom ·)))=true:=by kernel_rfl
theorem k26:(Tryz.checked.prog.mayEnter)=true:=by kernel_rfl
theorem k30:((YtdglapefgakccaaGreat.Rows.fnExactRunToEndRow.pinned==YtdglapefgakccaaGreat.Rows.fnExactRunToEndRow.pinnedBy))=true:=by kernel_rfl
end Go.Proofs.YtdglapefgakccaaGreat.World
