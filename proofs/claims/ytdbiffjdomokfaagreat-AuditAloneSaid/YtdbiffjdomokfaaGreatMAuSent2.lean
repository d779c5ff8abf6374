/-
  The facts on the law's row, each by itself. No statement of a seat is proved here.
-/
import Derived.Test.YtdbiffjdomokfaaGreatRows
import Derived.Test.YtdbiffjdomokfaaGreatAbsEnv
import Derived.Test.YtdbiffjdomokfaaGreatMAuVc6
set_option linter.unusedVariables false
set_option linter.unusedSimpArgs false
set_option linter.unusedSectionVars false
set_option linter.unnecessarySimpa false
set_option maxRecDepth 1000000
namespace Go.Proofs.YtdbiffjdomokfaaGreat.auditAlone
open Go.Ab Go.ChangeShapes Go.WideShapes Go.RowKit
theorem j0:(Rows.auditAloneRow.wf (OpenSpec.ofChange Rows.auditAloneSpec))=true:=by kernel_rfl
theorem j1:(laidOutB Tryz.pinned.checked.prog)=true:=by kernel_rfl
theorem j2:(mapsRowed Tryz.pinned.checked.prog)=true:=by kernel_rfl
theorem j3:(Tryz.f6.params.all (Tryz.pinned.checked.prog.readableRec ·))=true:=by kernel_rfl
theorem j4:(namedTie Tryz.pinned.checked.prog Rows.auditAloneRow.named (Rows.auditAloneSpec).vars)=true:=by kernel_rfl
theorem j5:((Rows.auditAloneRow.stops == []))=true:=by kernel_rfl
theorem j6:((Tryz.pinned.checked.prog.stops == []))=true:=by kernel_rfl
theorem j7:((Rows.auditAloneRow.knobs == []))=true:=by kernel_rfl
theorem j8:((Tryz.pinned.checked.prog.stopKnobs == []))=true:=by kernel_rfl
theorem j9:((Rows.auditAloneRow.inPlace == Tryz.pinned.checked.prog.inPlace 6))=true:=by kernel_rfl
theorem j10:((Rows.auditAloneRow.unfollowed == Tryz.pinned.checked.prog.unfollowed 6))=true:=by kernel_rfl
theorem j11:((Rows.auditAloneRow.recurses == Tryz.pinned.checked.prog.recurses 6))=true:=by kernel_rfl
theorem j12:((Rows.auditAloneRow.named == Tryz.pinned.checked.prog.varsNamed 6))=true:=by kernel_rfl
theorem j13:((Rows.auditAloneRow.maps == (Tryz.f6.params.toList++(Rows.auditAloneSpec).plain.varTypes Tryz.pinned.checked.prog).any (Tryz.pinned.checked.prog.mapsRec ·)))=true:=by kernel_rfl
theorem j14:((Rows.auditAloneRow.ifaces == (Tryz.f6.params.toList++(Rows.auditAloneSpec).plain.varTypes Tryz.pinned.checked.prog).any (Tryz.pinned.checked.prog.ifacesRec ·)))=true:=by kernel_rfl
theorem j15:((Rows.auditAloneRow.mapsOut == Tryz.pinned.checked.prog.mapsAmong Tryz.f6.resultTypes.toList))=true:=by kernel_rfl
theorem j16:((Rows.auditAloneRow.loops == (Tryz.f6.params.toList++(Rows.auditAloneSpec).plain.varTypes Tryz.pinned.checked.prog).any (Tryz.pinned.checked.prog.loopsFrom ·)))=true:=by kernel_rfl
theorem j17:((Rows.auditAloneRow.wideKeys == (Tryz.f6.params.toList++(Rows.auditAloneSpec).plain.varTypes Tryz.pinned.checked.prog++Tryz.f6.resultTypes.toList).any (Tryz.pinned.checked.prog.wideKeysFrom ·)))=true:=by kernel_rfl
theorem j18:((Rows.auditAloneSpec).vars.all (Tryz.pinned.checked.prog.varReadable ·))=true:=by kernel_rfl
theorem j19:(Tryz.f6.resultTypes.all (fun t=>Tryz.pinned.checked.prog.readableRec t&&decide (t<Tryz.pinned.checked.prog.types.size)))=true:=by kernel_rfl
theorem j20:((Rows.auditAloneRow.ifacesOut == Tryz.f6.resultTypes.toList.any (Tryz.pinned.checked.prog.ifacesRec ·)))=true:=by kernel_rfl
theorem j21:((Rows.auditAloneRow.loopsOut == Tryz.f6.resultTypes.toList.any (Tryz.pinned.checked.prog.loopsFrom ·)))=true:=by kernel_rfl
theorem j22:((Rows.auditAloneRow.plainKeys == Tryz.pinned.checked.prog.plainKeys))=true:=by kernel_rfl
theorem j23:(Rows.auditAloneRow.shortTexts.isNone)=true:=by kernel_rfl
theorem j24:(Tryz.pinned.checked.prog.stopsHeard)=true:=by kernel_rfl
theorem j25:(Tryz.pinned.checked.prog.mayEnter)=true:=by kernel_rfl
theorem j26:((Rows.auditAloneRow.lifted == Tryz.pinned.checked.prog.liftsFinal))=true:=by kernel_rfl
theorem j27:((Tryz.pinned.checked.prog.make == some Rows.auditAloneRow.make))=true:=by kernel_rfl
theorem j28:((Rows.auditAloneRow.kinds == (if Rows.auditAloneRow.domain.isEmpty then [] else Tryz.f6.params.toList.map fun t=>match Tryz.pinned.checked.prog.underlying t with | some (.int k)=>some k | _=>none)))=true:=by kernel_rfl
theorem j29:((Rows.auditAloneRow.pinned == Rows.auditAloneRow.pinnedBy))=true:=by kernel_rfl
theorem j30:((Rows.auditAloneRow.veiled == (Tryz.f6.params.toList++(Rows.auditAloneSpec).plain.varTypes Tryz.pinned.checked.prog++Tryz.f6.resultTypes.toList).any (Tryz.pinned.checked.prog.veiledRec ·)))=true:=by kernel_rfl
theorem j31:(Rows.auditAloneRow.veiledFits Tryz.pinned.checked.prog Tryz.f6.params.toList (Tryz.f6.params.toList++(Rows.auditAloneSpec).plain.varTypes Tryz.pinned.checked.prog++Tryz.f6.resultTypes.toList))=true:=by kernel_rfl
theorem TA:joinedFacts Tryz.pinned.checked.prog 6 Tryz.f6 Rows.auditAloneSpec Rows.auditAloneRow=true:=by
 unfold joinedFacts
 simp only[Bool.and_eq_true]
 exact⟨⟨⟨⟨⟨⟨⟨⟨⟨⟨⟨⟨⟨⟨⟨⟨⟨⟨⟨⟨⟨⟨⟨⟨⟨⟨⟨⟨⟨⟨⟨j0,j1⟩,j2⟩,j3⟩,j4⟩,j5⟩,j6⟩,j7⟩,j8⟩,j9⟩,j10⟩,j11⟩,j12⟩,j13⟩,j14⟩,j15⟩,j16⟩,j17⟩,j18⟩,j19⟩,j20⟩,j21⟩,j22⟩,j23⟩,j24⟩,j25⟩,j26⟩,j27⟩,j28⟩,j29⟩,j30⟩,j31⟩
end Go.Proofs.YtdbiffjdomokfaaGreat.auditAlone
set_option maxRecDepth 100000
namespace Go.Ab
theorem YE{M:Mem}{ι:Map}{w:World}{H:ab}(hS:fh M ι H.get w)(hD:pB ι H):Fr H:=by
 intro d t g k hg
 cases h:H.get ⟨d,t,g,k⟩ with
 | none=>rfl
 | some b =>
  obtain⟨l,hl,_⟩:=hS.live _ _ h
  have:=hD _ _ hl
  simp only at this
  omega
theorem FI{P:Program}{fr:Frame}{cs:List Frame}{rest:List Deferred} : ∀(ds:List Nat)(w:World),fr.mode = .returning→ds.Nodup→(∀D∈ds,w.heap[D]?=some (.deferred (some []))) →
 ∃w',Steps P (lone { fr with defers:=marks ds++rest} cs w) (lone { fr with defers:=rest} cs w')∧w'.os=w.os∧w'.tape=w.tape∧w'.output=w.output∧w'.heap.size=w.heap.size ∧∀b,b ∉ ds→w'.heap[b]?=w.heap[b]?:=by
 intro ds
 induction ds with
 | nil=>intro w _ _ _;exact⟨w,Steps.refl _ _,rfl,rfl,rfl,rfl,fun _ _=>rfl⟩
 | cons D ds ih =>
  intro w hm hnd hh
  have h1:=run_takeDeferred (P:=P) (hh D (List.mem_cons_self ..))
  have hstep:=step_collected (P:=P) (fr := { fr with defers:=marks (D :: ds)++rest}) (cs:=cs) (w:=w) (d := { target := .collected D,args := #[]}) (r:=D) (ds:=marks ds++rest) (by simp[hm]) rfl rfl h1
  obtain⟨w',h2,h3,h4,h5,h6,h7⟩:=ih (w.putObj D (.deferred none)) hm (List.nodup_cons.1 hnd).2 (fun D' hD'=>by
   rw[World.putObj_heap_other (by intro e;subst e;exact(List.nodup_cons.1 hnd).1 hD')]
   exact hh D' (List.mem_cons_of_mem _ hD'))
  refine⟨w',Steps.trans (.one hstep) (by simpa using h2),h3,h4,h5,by rw[h6];simp,fun b hb=>?_⟩
  rw[h7 b (fun h=>hb (List.mem_cons_of_mem _ h)),World.putObj_heap_other (by intro e;subst e;exact hb (List.mem_cons_self ..))]
def sf(r:Nat)(ats:Array TypeId)(ty:TypeId)(cn:Array Bool):Deferred := { target := .builtin .close ats ty cn,args := #[.chan (some r)]}
theorem IV{P:Program}{fr:Frame}{cs:List Frame}{w:World}{r cap s rc:Nat}{buf:Array Value}{ats:Array TypeId}{ty:TypeId}{cn:Array Bool}{ds:List Deferred}(hm:fr.mode = .returning)
 (hd:fr.defers=sf r ats ty cn :: ds) (hh:w.heap[r]?=some (.chan cap buf false s rc false)) :
 step P (lone fr cs w) = .next (lone { fr with defers:=ds} cs (bW w r (.chan cap buf true s rc false))):=by
 refine step_lone_go ?_
 have h1:=run_close_open (P:=P) ats ty hh
 simp[stepG,unwind,callDeferred,hm,hd,sf,invoke,builtin,h1,bW,Sem.runT_eq,GStep.bare_after]
end Go.Ab
namespace Go.Proofs.YtdbiffjdomokfaaGreat
open Go.Ab
def BX:Code→Code
 | .seq a _=>a
 | c=>c
def uV:Code→Code
 | .seq _ b=>b
 | c=>c
def NX:Code→Array Oper
 | .region _ o _=>o
 | _ => #[]
noncomputable def Vh:Array Oper:=NX (BX jw)
noncomputable def Tg:Array Oper:=NX (BX (uV jw))
noncomputable def Pr:Array Oper:=NX (BX (uV (uV jw)))
noncomputable def KU:Code:=BX (uV (uV (uV jw)))
noncomputable def Ub:Code:=uV (uV (uV (uV jw)))
theorem Eo:Tryz.f23.body=some (.seq (.region 0 Vh false) (.seq (.region 1 Tg false) (.seq (.region 2 Pr false) (.seq (.seq (BX KU) (uV KU)) Ub)))):=by kernel_rfl
theorem Kd:mM=[.code (BX KU),.code (uV KU),.code Ub]:=by kernel_rfl
theorem Sy(s:dK)(H:ab)(K:dK→ab→Prop)(h:K (z3 s 2 (.v (.chan none))) H):Go.Ab.wpOps kF 31 40 false Vh Vh.toList s H K:=by
 have e:Go.Ab.wpOps kF 31 40 false Vh Vh.toList s H K=K (z3 s 2 (.v (.chan none))) H:=by kernel_rfl
 rw[e];exact h
theorem Sx(s:dK)(H:ab)(K:dK→ab→Prop)(h:Go.Ab.ak (aJ env.P false H.get ⟨40,7,H.gen 40 7,0⟩ .len #[31] [s 0]) fun v1 =>
 aO (oF env.P H ⟨40,8,H.gen 40 8,0⟩ 96 (some v1)) fun v2 H1=>K (z3 (z3 (z3 (z3 s 6 (s 0)) 7 v1) 8 v2) 3 v2) H1):Go.Ab.wpOps kF 31 40 false Tg Tg.toList s H K:=by
 have e:Go.Ab.wpOps kF 31 40 false Tg Tg.toList s H K=(ak (aJ env.P false H.get ⟨40,7,H.gen 40 7,0⟩ .len #[31] [s 0]) fun v1 =>
  aO (oF env.P H ⟨40,8,H.gen 40 8,0⟩ 96 (some v1)) fun v2 H1=>K (z3 (z3 (z3 (z3 s 6 (s 0)) 7 v1) 8 v2) 3 v2) H1):=by kernel_rfl
 rw[e];exact h
end Go.Proofs.YtdbiffjdomokfaaGreat
