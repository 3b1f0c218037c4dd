/- FnExactFlowEffect: the statement Rows.FnExactFlowEffectSaid holds. Conditions: none. -/
import Derived.Test.YtkjgmpccmpmmiaaGreatK11
import Derived.Test.YtkjgmpccmpmmiaaGreatRows
set_option linter.all false
set_option linter.unusedVariables false
set_option linter.unusedSimpArgs false
set_option maxHeartbeats 2000000
set_option maxRecDepth 100000
namespace Go.Proofs.YtkjgmpccmpmmiaaGreat
open Go Go.Ev Go.Proofs Go.RowKit Go.ChangeShapes Go.WideShapes
namespace RFnExactFlowEffect
theorem k2:Tryz.checked.prog.inits.idxOf? 3=none:=by kernel_rfl
theorem k3(os:Os):(World.plainHolding Tryz.checked.prog os ⟨#[], #[.slice none 0 0,.int .i64 0,.int .i64 0,.int .i64 0,.agg #[.slice none 0 0,.slice none 0 0]],[]⟩).variablesB Tryz.checked.prog=true:=by kernel_rfl
theorem k4(os:Os):((World.plainHolding Tryz.checked.prog os ⟨#[], #[.slice none 0 0,.int .i64 0,.int .i64 0,.int .i64 0,.agg #[.slice none 0 0,.slice none 0 0]],[]⟩).heap.toList.drop Tryz.checked.prog.globals.size).take ((begin Tryz.checked.prog (fun _ _=>0) default).world.heap.size-Tryz.checked.prog.globals.size)=(begin Tryz.checked.prog (fun _ _=>0) default).world.heap.toList.drop Tryz.checked.prog.globals.size:=by kernel_rfl
theorem k5(os:Os):Input.okWideB Tryz.checked.prog (World.plainHolding Tryz.checked.prog os ⟨#[], #[.slice none 0 0,.int .i64 0,.int .i64 0,.int .i64 0,.agg #[.slice none 0 0,.slice none 0 0]],[]⟩) 3 ⟨#[],(⟨#[], #[.slice none 0 0,.int .i64 0,.int .i64 0,.int .i64 0,.agg #[.slice none 0 0,.slice none 0 0]],[]⟩:Input).args,[]⟩=true:=by kernel_rfl
theorem k6(os:Os)(H:Type)(enc:TypeId×Value→H):Rows.fnExactFlowEffectSpec.preB enc Tryz.checked.prog Tryz.f3 [] false (World.plainHolding Tryz.checked.prog os ⟨#[], #[.slice none 0 0,.int .i64 0,.int .i64 0,.int .i64 0,.agg #[.slice none 0 0,.slice none 0 0]],[]⟩).memory (⟨#[], #[.slice none 0 0,.int .i64 0,.int .i64 0,.int .i64 0,.agg #[.slice none 0 0,.slice none 0 0]],[]⟩:Input).args 8=true:=by kernel_rfl
theorem k7(os:Os)(H:Type)(enc:TypeId×Value→H):Rows.fnExactFlowEffectSpec.sizedB enc Tryz.checked.prog Tryz.f3 false (World.plainHolding Tryz.checked.prog os ⟨#[], #[.slice none 0 0,.int .i64 0,.int .i64 0,.int .i64 0,.agg #[.slice none 0 0,.slice none 0 0]],[]⟩).memory (⟨#[], #[.slice none 0 0,.int .i64 0,.int .i64 0,.int .i64 0,.agg #[.slice none 0 0,.slice none 0 0]],[]⟩:Input).args 8=true:=by kernel_rfl
theorem k9:(Tryz.f3.params.toList.all fun t=>Tryz.prog.readableRec t&&decide (t<Tryz.prog.types.size))=true:=by kernel_rfl
theorem k10:Qzu Tryz.prog 9 Tryz.f3.params.toList=some [aC,aI,aI,aI,aF]:=by kernel_rfl
theorem h1:Rows.fnExactFlowEffectRow.wf (OpenSpec.ofChange Rows.fnExactFlowEffectSpec)=true:=by kernel_rfl
theorem h4:Tryz.f3.params.all (Tryz.checked.prog.readableRec ·)=true:=by kernel_rfl
theorem h5:namedTie Tryz.checked.prog Rows.fnExactFlowEffectRow.named Rows.fnExactFlowEffectSpec.vars=true:=by kernel_rfl
theorem h7:(Rows.fnExactFlowEffectRow.inPlace==Tryz.checked.prog.inPlace 3)=true:=by kernel_rfl
theorem h8:(Rows.fnExactFlowEffectRow.unfollowed==Tryz.checked.prog.unfollowed 3)=true:=by kernel_rfl
theorem h9:(Rows.fnExactFlowEffectRow.recurses==Tryz.checked.prog.recurses 3)=true:=by kernel_rfl
theorem h10:(Rows.fnExactFlowEffectRow.named==Tryz.checked.prog.varsNamed 3)=true:=by kernel_rfl
theorem h11:(Rows.fnExactFlowEffectRow.maps==(Tryz.f3.params.toList++Rows.fnExactFlowEffectSpec.plain.varTypes Tryz.checked.prog).any (Tryz.checked.prog.mapsRec ·))=true:=by kernel_rfl
theorem h12:(Rows.fnExactFlowEffectRow.ifaces==(Tryz.f3.params.toList++Rows.fnExactFlowEffectSpec.plain.varTypes Tryz.checked.prog).any (Tryz.checked.prog.ifacesRec ·))=true:=by kernel_rfl
theorem h13:(Rows.fnExactFlowEffectRow.mapsOut==Tryz.checked.prog.mapsAmong Tryz.f3.resultTypes.toList)=true:=by kernel_rfl
theorem h14:(Rows.fnExactFlowEffectRow.loops==(Tryz.f3.params.toList++Rows.fnExactFlowEffectSpec.plain.varTypes Tryz.checked.prog).any (Tryz.checked.prog.loopsFrom ·))=true:=by kernel_rfl
theorem h15:(Rows.fnExactFlowEffectRow.wideKeys==(Tryz.f3.params.toList++Rows.fnExactFlowEffectSpec.plain.varTypes Tryz.checked.prog++Tryz.f3.resultTypes.toList).any (Tryz.checked.prog.wideKeysFrom ·))=true:=by kernel_rfl
theorem h16:Rows.fnExactFlowEffectSpec.vars.all (Tryz.checked.prog.varReadable ·)=true:=by kernel_rfl
theorem h17:Tryz.f3.resultTypes.all (fun t=>Tryz.checked.prog.readableRec t&&decide (t<Tryz.checked.prog.types.size))=true:=by kernel_rfl
theorem h18:(Rows.fnExactFlowEffectRow.ifacesOut==Tryz.f3.resultTypes.toList.any (Tryz.checked.prog.ifacesRec ·))=true:=by kernel_rfl
theorem h19:(Rows.fnExactFlowEffectRow.loopsOut==Tryz.f3.resultTypes.toList.any (Tryz.checked.prog.loopsFrom ·))=true:=by kernel_rfl
theorem h24:Rows.fnExactFlowEffectRow.domain=[]∧Rows.fnExactFlowEffectRow.kinds=[]:=by exact ⟨rfl,rfl⟩
theorem h25:(Rows.fnExactFlowEffectRow.pinned==Rows.fnExactFlowEffectRow.pinnedBy)=true:=by kernel_rfl
theorem h26:(Rows.fnExactFlowEffectRow.veiled==(Tryz.f3.params.toList++Rows.fnExactFlowEffectSpec.plain.varTypes Tryz.checked.prog++Tryz.f3.resultTypes.toList).any (Tryz.checked.prog.veiledRec ·))=true:=by kernel_rfl
theorem h27:Rows.fnExactFlowEffectRow.veiledFits Tryz.checked.prog Tryz.f3.params.toList (Tryz.f3.params.toList++Rows.fnExactFlowEffectSpec.plain.varTypes Tryz.checked.prog++Tryz.f3.resultTypes.toList)=true:=by kernel_rfl
theorem k11:joinedFacts Tryz.checked.prog 3 Tryz.f3 Rows.fnExactFlowEffectSpec Rows.fnExactFlowEffectRow=true:=Q109 h1 s_h2 s_h3 h4 h5 s_h6 h7 h8 h9 h10 h11 h12 h13 h14 h15 h16 h17 h18 h19 Q165 Q164 Q14z Q163 Q162 h24 h25 h26 h27
theorem k12:Tryz.checked.prog.funcNamed Rows.fnExactFlowEffectRow.func=some 3:=by kernel_rfl
theorem k13:Tryz.f3.isInstance Tryz.checked.prog Rows.fnExactFlowEffectRow.origin Rows.fnExactFlowEffectRow.targs:=of_decide_eq_true (by kernel_rfl)
theorem k14:Tryz.f3.isWrapper Tryz.checked.prog Rows.fnExactFlowEffectRow.wrapper Rows.fnExactFlowEffectRow.mainSum:=by unfold Func.isWrapper;first|(rw[if_pos (by decide+kernel)];kernel_rfl)|(rw[if_neg (by decide+kernel)];exact ⟨rfl,rfl⟩)
theorem lifted(os:Os)(started:os.Started)(H:Type)(enc:TypeId×Value→H):ReturnsInHanded {} Tryz.checked os 3 .any (Rows.fnExactFlowEffectSpec.pre6 enc Tryz.checked.prog Tryz.f3 [] false) (Rows.fnExactFlowEffectSpec.post enc Tryz.checked.prog Tryz.f3 false Rows.fnExactFlowEffectRow.fresh Rows.fnExactFlowEffectRow.handsOn Rows.fnExactFlowEffectRow.again):=by
 refine returnsInHanded_of_change_shaped (C:=Tryz.checked) (s:=Rows.fnExactFlowEffectSpec) (conds:=[]) s_k1 started k2 Tryz.func3
  (ChangeSpec.witness6 (enc:=enc) (C:=Tryz.checked) false ⟨#[], #[.slice none 0 0,.int .i64 0,.int .i64 0,.int .i64 0,.agg #[.slice none 0 0,.slice none 0 0]],[]⟩ 8 (k3 os) (k4 os) (k5 os) (k6 os H enc) (k7 os H enc)) ?_
 intro W base args ds gs before hval hW _ hw _ _
 refine Q107 (P:=Tryz.prog) (tb:=4) (n:=9) (css:=[aC,aI,aI,aI,aF]) s_h2 k9 rfl rfl Tryz.underlying4 (fun ds hd=> ?_) k10 hval hW hw ?_
 ·match ds,hd with
  |[d0,d1,d2,d3,d4],_=>rfl
 ·intro vs h
  obtain ⟨l0,_,rfl,q0,b0,h⟩:=Q16i h
  obtain ⟨n1,_,rfl,q1,h⟩:=Q11h h
  obtain ⟨n2,_,rfl,q2,h⟩:=Q11h h
  obtain ⟨n3,_,rfl,q3,h⟩:=Q11h h
  obtain ⟨f4,_,rfl,q4,h⟩:=Q16h h
  obtain rfl:=Q13h h
  exact Qch q0 b0 q1 q2 q3 q4
end RFnExactFlowEffect
open RFnExactFlowEffect in
theorem FnExactFlowEffect_holds:Rows.FnExactFlowEffectSaid:=
 OpenClaim.holds_of_wide 3 Tryz.f3 rfl rfl rfl rfl rfl rfl rfl ⟨rfl,rfl,rfl,rfl,rfl⟩ rfl rfl rfl rfl rfl RFnExactFlowEffect.k12 Tryz.func3 RFnExactFlowEffect.k11 RFnExactFlowEffect.k13 RFnExactFlowEffect.k14 (fun os started H enc _=>lifted os started H enc)
end Go.Proofs.YtkjgmpccmpmmiaaGreat
