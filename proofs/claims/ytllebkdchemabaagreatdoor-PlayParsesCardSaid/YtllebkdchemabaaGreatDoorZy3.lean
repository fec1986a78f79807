/- Merged texts of this proof. -/
import Derived.JoinedOf
import Derived.Test.YtllebkdchemabaaGreatDoorZy
set_option maxHeartbeats 8000000
namespace Go.Proofs.YtllebkdchemabaaGreatDoor
open Go.RowKit Go.Proofs Tryz
set_option maxRecDepth 100000
set_option linter.unusedVariables false
set_option linter.unusedSimpArgs false
theorem Ji3:(Rows.playParsesRow.wf (OpenSpec.ofChange Rows.playParsesSpec))=true:=by kernel_rfl
theorem Ji4:(Tryz.f3.params.all (prog.readableRec ·))=true:=by kernel_rfl
theorem Ji5:(namedTie prog Rows.playParsesRow.named Rows.playParsesSpec.vars)=true:=by kernel_rfl
theorem Ji6:((Rows.playParsesRow.stops == []))=true:=by kernel_rfl
theorem Ji7:((Rows.playParsesRow.knobs == []))=true:=by kernel_rfl
theorem Jim:((Rows.playParsesRow.inPlace == prog.inPlace 3))=true:=by kernel_rfl
theorem Jiv:((Rows.playParsesRow.unfollowed == prog.unfollowed 3))=true:=by kernel_rfl
theorem Jiw:((Rows.playParsesRow.recurses == prog.recurses 3))=true:=by kernel_rfl
theorem Jir:((Rows.playParsesRow.named == prog.varsNamed 3))=true:=by kernel_rfl
theorem Jis:((Rows.playParsesRow.maps == (Tryz.f3.params.toList++Rows.playParsesSpec.plain.varTypes prog).any (prog.mapsRec ·)))=true:=by kernel_rfl
theorem Jio:((Rows.playParsesRow.ifaces == (Tryz.f3.params.toList++Rows.playParsesSpec.plain.varTypes prog).any (prog.ifacesRec ·)))=true:=by kernel_rfl
theorem Jit:((Rows.playParsesRow.mapsOut == prog.mapsAmong Tryz.f3.resultTypes.toList))=true:=by kernel_rfl
theorem Ji2:((Rows.playParsesRow.loops == (Tryz.f3.params.toList++Rows.playParsesSpec.plain.varTypes prog).any (prog.loopsFrom ·)))=true:=by kernel_rfl
theorem Ji1:((Rows.playParsesRow.wideKeys == (Tryz.f3.params.toList++Rows.playParsesSpec.plain.varTypes prog++Tryz.f3.resultTypes.toList).any (prog.wideKeysFrom ·)))=true:=by kernel_rfl
theorem Jin:(Rows.playParsesSpec.vars.all (prog.varReadable ·))=true:=by kernel_rfl
theorem Jiy:(Tryz.f3.resultTypes.all (fun t=>prog.readableRec t&&decide (t<prog.types.size)))=true:=by kernel_rfl
theorem Ji0:((Rows.playParsesRow.ifacesOut == Tryz.f3.resultTypes.toList.any (prog.ifacesRec ·)))=true:=by kernel_rfl
theorem Jil:((Rows.playParsesRow.loopsOut == Tryz.f3.resultTypes.toList.any (prog.loopsFrom ·)))=true:=by kernel_rfl
theorem Jix:(Rows.playParsesRow.shortTexts.isNone)=true:=by kernel_rfl
theorem Jip:((Rows.playParsesRow.kinds == (if Rows.playParsesRow.domain.isEmpty then[]else Tryz.f3.params.toList.map fun t=>match prog.underlying t with|some (.int k)=>some k|_=>none)))=true:=by kernel_rfl
theorem Jiu:((Rows.playParsesRow.pinned == Rows.playParsesRow.pinnedBy))=true:=by kernel_rfl
theorem Jiq:((Rows.playParsesRow.veiled == (Tryz.f3.params.toList++Rows.playParsesSpec.plain.varTypes prog++Tryz.f3.resultTypes.toList).any (prog.veiledRec ·)))=true:=by kernel_rfl
theorem Jiz:(Rows.playParsesRow.veiledFits prog Tryz.f3.params.toList (Tryz.f3.params.toList++Rows.playParsesSpec.plain.varTypes prog++Tryz.f3.resultTypes.toList))=true:=by kernel_rfl
theorem Jik:joinedFacts prog 3 Tryz.f3 Rows.playParsesSpec Rows.playParsesRow=true:=(bd_ (bd_ (bd_ (bd_ (bd_ (bd_ (bd_ (bd_ (bd_ (bd_ (bd_ (bd_ (bd_ (bd_ (bd_ (bd_ (bd_ (bd_ (bd_ (bd_ (bd_ (bd_ (bd_ (bd_ (bd_ (bd_ (bd_ (bd_ (bd_ (bd_ (bd_ Ji3 Zp) Zk) Ji4) Ji5) Ji6) Yv) Ji7) Jal) Jim) Jiv) Jiw) Jir) Jis) Jio) Jit) Ji2) Ji1) Jin) Jiy) Ji0) Jil) WE) Jix) UT) Ve) V1) Wu) Jip) Jiu) Jiq) Jiz)
end Go.Proofs.YtllebkdchemabaaGreatDoor
