/-
  The facts on the law's row, each by itself. No statement of a seat is proved here.
-/
import Derived.Test.YtmkmimgokagimaaGreatRows
import Derived.Test.YtmkmimgokagimaaGreatAbsEnv
set_option linter.unusedVariables false
set_option linter.unusedSimpArgs false
set_option linter.unusedSectionVars false
set_option linter.unnecessarySimpa false
set_option maxRecDepth 1000000
set_option linter.defProp false
namespace Go.Proofs.YtmkmimgokagimaaGreat.ledgerGives
open Go.Ab Go.ChangeShapes Go.WideShapes Go.RowKit
def j0:(Rows.ledgerGivesRow.wf (OpenSpec.ofChange Rows.ledgerGivesSpec))=true:=by kernel_rfl
def j1:(laidOutB Tryz.pinned.checked.prog)=true:=by kernel_rfl
def j2:(mapsRowed Tryz.pinned.checked.prog)=true:=by kernel_rfl
def j3:(Tryz.f3.params.all (Tryz.pinned.checked.prog.readableRec ·))=true:=by kernel_rfl
def j4:(namedTie Tryz.pinned.checked.prog Rows.ledgerGivesRow.named (Rows.ledgerGivesSpec).vars)=true:=by kernel_rfl
def j5:((Rows.ledgerGivesRow.stops == []))=true:=by kernel_rfl
def j6:((Tryz.pinned.checked.prog.stops == []))=true:=by kernel_rfl
def j7:((Rows.ledgerGivesRow.knobs == []))=true:=by kernel_rfl
def j8:((Tryz.pinned.checked.prog.stopKnobs == []))=true:=by kernel_rfl
def j9:((Rows.ledgerGivesRow.inPlace == Tryz.pinned.checked.prog.inPlace 3))=true:=by kernel_rfl
def j10:((Rows.ledgerGivesRow.unfollowed == Tryz.pinned.checked.prog.unfollowed 3))=true:=by kernel_rfl
def j11:((Rows.ledgerGivesRow.recurses == Tryz.pinned.checked.prog.recurses 3))=true:=by kernel_rfl
def j12:((Rows.ledgerGivesRow.named == Tryz.pinned.checked.prog.varsNamed 3))=true:=by kernel_rfl
def j13:((Rows.ledgerGivesRow.maps == (Tryz.f3.params.toList++(Rows.ledgerGivesSpec).plain.varTypes Tryz.pinned.checked.prog).any (Tryz.pinned.checked.prog.mapsRec ·)))=true:=by kernel_rfl
def j14:((Rows.ledgerGivesRow.ifaces == (Tryz.f3.params.toList++(Rows.ledgerGivesSpec).plain.varTypes Tryz.pinned.checked.prog).any (Tryz.pinned.checked.prog.ifacesRec ·)))=true:=by kernel_rfl
def j15:((Rows.ledgerGivesRow.mapsOut == Tryz.pinned.checked.prog.mapsAmong Tryz.f3.resultTypes.toList))=true:=by kernel_rfl
def j16:((Rows.ledgerGivesRow.loops == (Tryz.f3.params.toList++(Rows.ledgerGivesSpec).plain.varTypes Tryz.pinned.checked.prog).any (Tryz.pinned.checked.prog.loopsFrom ·)))=true:=by kernel_rfl
def j17:((Rows.ledgerGivesRow.wideKeys == (Tryz.f3.params.toList++(Rows.ledgerGivesSpec).plain.varTypes Tryz.pinned.checked.prog++Tryz.f3.resultTypes.toList).any (Tryz.pinned.checked.prog.wideKeysFrom ·)))=true:=by kernel_rfl
def j18:((Rows.ledgerGivesSpec).vars.all (Tryz.pinned.checked.prog.varReadable ·))=true:=by kernel_rfl
def j19:(Tryz.f3.resultTypes.all (λt=>Tryz.pinned.checked.prog.readableRec t&&decide (t<Tryz.pinned.checked.prog.types.size)))=true:=by kernel_rfl
def j20:((Rows.ledgerGivesRow.ifacesOut == Tryz.f3.resultTypes.toList.any (Tryz.pinned.checked.prog.ifacesRec ·)))=true:=by kernel_rfl
def j21:((Rows.ledgerGivesRow.loopsOut == Tryz.f3.resultTypes.toList.any (Tryz.pinned.checked.prog.loopsFrom ·)))=true:=by kernel_rfl
def j22:((Rows.ledgerGivesRow.plainKeys == Tryz.pinned.checked.prog.plainKeys))=true:=by kernel_rfl
def j23:(Rows.ledgerGivesRow.shortTexts.isNone)=true:=by kernel_rfl
def j24:(Tryz.pinned.checked.prog.stopsHeard)=true:=by kernel_rfl
def j25:(Tryz.pinned.checked.prog.mayEnter)=true:=by kernel_rfl
def j26:((Rows.ledgerGivesRow.lifted == Tryz.pinned.checked.prog.liftsFinal))=true:=by kernel_rfl
def j27:((Tryz.pinned.checked.prog.make == some Rows.ledgerGivesRow.make))=true:=by kernel_rfl
def j28:((Rows.ledgerGivesRow.kinds == (if Rows.ledgerGivesRow.domain.isEmpty then [] else Tryz.f3.params.toList.map λt=>match Tryz.pinned.checked.prog.underlying t with | some (.int k)=>some k | _=>none)))=true:=by kernel_rfl
def j29:((Rows.ledgerGivesRow.pinned == Rows.ledgerGivesRow.pinnedBy))=true:=by kernel_rfl
def j30:((Rows.ledgerGivesRow.veiled == (Tryz.f3.params.toList++(Rows.ledgerGivesSpec).plain.varTypes Tryz.pinned.checked.prog++Tryz.f3.resultTypes.toList).any (Tryz.pinned.checked.prog.veiledRec ·)))=true:=by kernel_rfl
def j31:(Rows.ledgerGivesRow.veiledFits Tryz.pinned.checked.prog Tryz.f3.params.toList (Tryz.f3.params.toList++(Rows.ledgerGivesSpec).plain.varTypes Tryz.pinned.checked.prog++Tryz.f3.resultTypes.toList))=true:=by kernel_rfl
def ab5:joinedFacts Tryz.pinned.checked.prog 3 Tryz.f3 Rows.ledgerGivesSpec Rows.ledgerGivesRow=true:=by
 unfold joinedFacts;simp only[aT];exact⟨⟨⟨⟨⟨⟨⟨⟨⟨⟨⟨⟨⟨⟨⟨⟨⟨⟨⟨⟨⟨⟨⟨⟨⟨⟨⟨⟨⟨⟨⟨j0,j1⟩,j2⟩,j3⟩,j4⟩,j5⟩,j6⟩,j7⟩,j8⟩,j9⟩,j10⟩,j11⟩,j12⟩,j13⟩,j14⟩,j15⟩,j16⟩,j17⟩,j18⟩,j19⟩,j20⟩,j21⟩,j22⟩,j23⟩,j24⟩,j25⟩,j26⟩,j27⟩,j28⟩,j29⟩,j30⟩,j31⟩
end Go.Proofs.YtmkmimgokagimaaGreat.ledgerGives
