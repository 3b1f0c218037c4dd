/- FnExactCheckAll: the statement Rows.FnExactCheckAllSaid holds. Conditions: none. -/
import Derived.Test.YtkjgmpccmpmmiaaGreatK11
import Derived.Test.YtkjgmpccmpmmiaaGreatRows
set_option linter.all false
set_option linter.unusedVariables false
set_option linter.unusedSimpArgs false
set_option maxHeartbeats 2000000
set_option maxRecDepth 100000
namespace Go.Proofs.YtkjgmpccmpmmiaaGreat
open Go Go.Ev Go.Proofs Go.RowKit Go.ChangeShapes Go.WideShapes
namespace RFnExactCheckAll
theorem k2:Tryz.checked.prog.inits.idxOf? 4=none:=by kernel_rfl
theorem k3(os:Os):(World.plainHolding Tryz.checked.prog os ⟨#[], #[.slice none 0 0],[]⟩).variablesB Tryz.checked.prog=true:=by kernel_rfl
theorem k4(os:Os):((World.plainHolding Tryz.checked.prog os ⟨#[], #[.slice none 0 0],[]⟩).heap.toList.drop Tryz.checked.prog.globals.size).take ((begin Tryz.checked.prog (fun _ _=>0) default).world.heap.size-Tryz.checked.prog.globals.size)=(begin Tryz.checked.prog (fun _ _=>0) default).world.heap.toList.drop Tryz.checked.prog.globals.size:=by kernel_rfl
theorem k5(os:Os):Input.okWideB Tryz.checked.prog (World.plainHolding Tryz.checked.prog os ⟨#[], #[.slice none 0 0],[]⟩) 4 ⟨#[],(⟨#[], #[.slice none 0 0],[]⟩:Input).args,[]⟩=true:=by kernel_rfl
theorem k6(os:Os)(H:Type)(enc:TypeId×Value→H):Rows.fnExactCheckAllSpec.preB enc Tryz.checked.prog Tryz.f4 [] false (World.plainHolding Tryz.checked.prog os ⟨#[], #[.slice none 0 0],[]⟩).memory (⟨#[], #[.slice none 0 0],[]⟩:Input).args 8=true:=by kernel_rfl
theorem k7(os:Os)(H:Type)(enc:TypeId×Value→H):Rows.fnExactCheckAllSpec.sizedB enc Tryz.checked.prog Tryz.f4 false (World.plainHolding Tryz.checked.prog os ⟨#[], #[.slice none 0 0],[]⟩).memory (⟨#[], #[.slice none 0 0],[]⟩:Input).args 8=true:=by kernel_rfl
theorem k9:(Tryz.f4.params.toList.all fun t=>Tryz.prog.readableRec t&&decide (t<Tryz.prog.types.size))=true:=by kernel_rfl
theorem k10:shpA Tryz.prog 9 Tryz.f4.params.toList=some [aC]:=by kernel_rfl
theorem h1:Rows.fnExactCheckAllRow.wf (OpenSpec.ofChange Rows.fnExactCheckAllSpec)=true:=by kernel_rfl
theorem h4:Tryz.f4.params.all (Tryz.checked.prog.readableRec ·)=true:=by kernel_rfl
theorem h5:namedTie Tryz.checked.prog Rows.fnExactCheckAllRow.named Rows.fnExactCheckAllSpec.vars=true:=by kernel_rfl
theorem h7:(Rows.fnExactCheckAllRow.inPlace==Tryz.checked.prog.inPlace 4)=true:=by kernel_rfl
theorem h8:(Rows.fnExactCheckAllRow.unfollowed==Tryz.checked.prog.unfollowed 4)=true:=by kernel_rfl
theorem h9:(Rows.fnExactCheckAllRow.recurses==Tryz.checked.prog.recurses 4)=true:=by kernel_rfl
theorem h10:(Rows.fnExactCheckAllRow.named==Tryz.checked.prog.varsNamed 4)=true:=by kernel_rfl
theorem h11:(Rows.fnExactCheckAllRow.maps==(Tryz.f4.params.toList++Rows.fnExactCheckAllSpec.plain.varTypes Tryz.checked.prog).any (Tryz.checked.prog.mapsRec ·))=true:=by kernel_rfl
theorem h12:(Rows.fnExactCheckAllRow.ifaces==(Tryz.f4.params.toList++Rows.fnExactCheckAllSpec.plain.varTypes Tryz.checked.prog).any (Tryz.checked.prog.ifacesRec ·))=true:=by kernel_rfl
theorem h13:(Rows.fnExactCheckAllRow.mapsOut==Tryz.checked.prog.mapsAmong Tryz.f4.resultTypes.toList)=true:=by kernel_rfl
theorem h14:(Rows.fnExactCheckAllRow.loops==(Tryz.f4.params.toList++Rows.fnExactCheckAllSpec.plain.varTypes Tryz.checked.prog).any (Tryz.checked.prog.loopsFrom ·))=true:=by kernel_rfl
theorem h15:(Rows.fnExactCheckAllRow.wideKeys==(Tryz.f4.params.toList++Rows.fnExactCheckAllSpec.plain.varTypes Tryz.checked.prog++Tryz.f4.resultTypes.toList).any (Tryz.checked.prog.wideKeysFrom ·))=true:=by kernel_rfl
theorem h16:Rows.fnExactCheckAllSpec.vars.all (Tryz.checked.prog.varReadable ·)=true:=by kernel_rfl
theorem h17:Tryz.f4.resultTypes.all (fun t=>Tryz.checked.prog.readableRec t&&decide (t<Tryz.checked.prog.types.size))=true:=by kernel_rfl
theorem h18:(Rows.fnExactCheckAllRow.ifacesOut==Tryz.f4.resultTypes.toList.any (Tryz.checked.prog.ifacesRec ·))=true:=by kernel_rfl
theorem h19:(Rows.fnExactCheckAllRow.loopsOut==Tryz.f4.resultTypes.toList.any (Tryz.checked.prog.loopsFrom ·))=true:=by kernel_rfl
theorem h24:Rows.fnExactCheckAllRow.domain=[]∧Rows.fnExactCheckAllRow.kinds=[]:=by exact ⟨rfl,rfl⟩
theorem h25:(Rows.fnExactCheckAllRow.pinned==Rows.fnExactCheckAllRow.pinnedBy)=true:=by kernel_rfl
theorem h26:(Rows.fnExactCheckAllRow.veiled==(Tryz.f4.params.toList++Rows.fnExactCheckAllSpec.plain.varTypes Tryz.checked.prog++Tryz.f4.resultTypes.toList).any (Tryz.checked.prog.veiledRec ·))=true:=by kernel_rfl
theorem h27:Rows.fnExactCheckAllRow.veiledFits Tryz.checked.prog Tryz.f4.params.toList (Tryz.f4.params.toList++Rows.fnExactCheckAllSpec.plain.varTypes Tryz.checked.prog++Tryz.f4.resultTypes.toList)=true:=by kernel_rfl
theorem k11:joinedFacts Tryz.checked.prog 4 Tryz.f4 Rows.fnExactCheckAllSpec Rows.fnExactCheckAllRow=true:=Q10y h1 s_h2 s_h3 h4 h5 s_h6 h7 h8 h9 h10 h11 h12 h13 h14 h15 h16 h17 h18 h19 Q17j Q17i Q166 Q17h Q17g h24 h25 h26 h27
theorem k12:Tryz.checked.prog.funcNamed Rows.fnExactCheckAllRow.func=some 4:=by kernel_rfl
theorem k13:Tryz.f4.isInstance Tryz.checked.prog Rows.fnExactCheckAllRow.origin Rows.fnExactCheckAllRow.targs:=of_decide_eq_true Z24
theorem k14:Tryz.f4.isWrapper Tryz.checked.prog Rows.fnExactCheckAllRow.wrapper Rows.fnExactCheckAllRow.mainSum:=by unfold Func.isWrapper;first|(rw[if_pos (by decide+kernel)];kernel_rfl)|(rw[if_neg (by decide+kernel)];exact ⟨rfl,rfl⟩)
theorem lifted(os:Os)(started:os.Started)(H:Type)(enc:TypeId×Value→H):ReturnsInHanded {} Tryz.checked os 4 .any (Rows.fnExactCheckAllSpec.pre6 enc Tryz.checked.prog Tryz.f4 [] false) (Rows.fnExactCheckAllSpec.post enc Tryz.checked.prog Tryz.f4 false Rows.fnExactCheckAllRow.fresh Rows.fnExactCheckAllRow.handsOn Rows.fnExactCheckAllRow.again):=by
 refine returnsInHanded_of_change_shaped (C:=Tryz.checked) (s:=Rows.fnExactCheckAllSpec) (conds:=[]) s_k1 started k2 Tryz.func4
  (ChangeSpec.witness6 (enc:=enc) (C:=Tryz.checked) false ⟨#[], #[.slice none 0 0],[]⟩ 8 (k3 os) (k4 os) (k5 os) (k6 os H enc) (k7 os H enc)) ?_
 intro W base args ds gs before hval hW _ hw _ _
 refine Q10w (P:=Tryz.prog) (tb:=4) (n:=9) (css:=[aC]) s_h2 k9 rfl rfl Tryz.underlying4 (fun ds hd=> ?_) k10 hval hW hw ?_
 ·match ds,hd with
  |[d0],_=>rfl
 ·intro vs h
  obtain ⟨l0,_,rfl,q0,b0,h⟩:=Q17x h
  obtain rfl:=Q14g h
  exact Qdh q0 b0
end RFnExactCheckAll
open RFnExactCheckAll in
theorem FnExactCheckAll_holds:Rows.FnExactCheckAllSaid:=
 OpenClaim.holds_of_wide 4 Tryz.f4 rfl rfl rfl rfl rfl rfl rfl ⟨rfl,rfl,rfl,rfl,rfl⟩ rfl rfl rfl rfl rfl RFnExactCheckAll.k12 Tryz.func4 RFnExactCheckAll.k11 RFnExactCheckAll.k13 RFnExactCheckAll.k14 (fun os started H enc _=>lifted os started H enc)
end Go.Proofs.YtkjgmpccmpmmiaaGreat
