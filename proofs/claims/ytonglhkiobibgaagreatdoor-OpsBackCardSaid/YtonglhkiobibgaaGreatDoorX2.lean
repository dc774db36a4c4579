/- Merged texts: Q0, RA, T0, AW, NA, NB, NC, ND, NE, NF, NG, NH, KA, KB. -/
import Derived.Test.YtonglhkiobibgaaGreatDoorX1
import Derived.WalkKit
import Derived.ProofKit
import Derived.OpenShut
import Derived.ChangeOld
import Derived.SizedLaws
import Derived.Carry
import Derived.Test.YtonglhkiobibgaaGreatDoorProg
set_option linter.unusedSimpArgs false
set_option linter.unusedVariables false
namespace Go.Proofs.YtonglhkiobibgaaGreatDoor
theorem TT : type_of% (And.intro @SS (And.intro @Option.map_some.{0,0} (And.intro @Option.map_none.{0,0} (And.intro @List.drop_zero.{0} (And.intro @List.take_succ_cons.{0} (And.intro @List.take_zero.{0} (And.intro @List.take_nil.{0} (And.intro @Nat.mul_one (And.intro @Nat.one_mul (And.intro @List.cons_append.{0} (And.intro @List.nil_append.{0} (And.intro @boxA.eq_1 (And.intro @cellsOf.eq_1 (And.intro @cellsOf.eq_2 (And.intro @cellsOf.eq_3 (And.intro @cellsOf.eq_4 (And.intro @cellsOf.eq_5 (And.intro @cellsOf.eq_6 (And.intro @foffA.eq_1 (And.intro @foffA.eq_2 (And.intro @foffA.eq_3 (And.intro @loadA.eq_1 (And.intro @loadA.eq_2 (And.intro @loadA.eq_3 (And.intro @loadA.eq_4 (And.intro @ldA.eq_1 (And.intro @idxA.eq_1 (And.intro @idxA.eq_2 (And.intro @idxA.eq_3 (And.intro @idxA.eq_4 (And.intro @idxA.eq_5 (And.intro @fldA.eq_1 (And.intro @fldA.eq_2 (And.intro @binA.eq_1 (And.intro @binA.eq_2 (And.intro @binA.eq_3 (And.intro @binA.eq_4 (And.intro @binA.eq_5 (And.intro @binVal.eq_1 (And.intro @binVal.eq_2 (And.intro @binVal.eq_3 (And.intro @isSh.eq_1 (And.intro @isSh.eq_2 (And.intro @isSh.eq_3 (And.intro @intVal.eq_1 (And.intro @intVal.eq_2 (And.intro @intVal.eq_3 (And.intro @intVal.eq_4 (And.intro @intVal.eq_5 (And.intro @intVal.eq_6 (And.intro @intVal.eq_7 (And.intro @intVal.eq_8 (And.intro @intVal.eq_9 (And.intro @intVal.eq_10 (And.intro @intVal.eq_11 (And.intro @intVal.eq_12 (And.intro @intVal.eq_13 (And.intro @intVal.eq_14 (And.intro @intVal.eq_15 (And.intro @lenA.eq_1 (And.intro @lenA.eq_2 (And.intro @lenA.eq_3 (And.intro @lenA.eq_4 (And.intro @lenA.eq_5 (And.intro @slenA.eq_1 (And.intro @slenA.eq_2 (And.intro @pickA.eq_1 (And.intro @pickA.eq_2 (And.intro @storeA.eq_1 (And.intro @storeA.eq_2 (And.intro @storeA.eq_3 (And.intro @storeA.eq_4 (And.intro @setN.eq_1 (And.intro @setN.eq_2 (And.intro @getN.eq_1 (And.intro @getN.eq_2 (And.intro @fillA.eq_1 (And.intro @fillA.eq_2 (And.intro @extA.eq_1 (And.intro @extA.eq_2 (And.intro @beqA.eq_1 (And.intro @beqA.eq_2 (And.intro @beqA.eq_3 (And.intro @eqsA.eq_1 (And.intro @eqsA.eq_2 (And.intro @eqsA.eq_3 (And.intro @eqL.eq_1 (And.intro @eqL.eq_2 (And.intro @eqL.eq_3 (And.intro @eqL.eq_4 (And.intro @eqL.eq_5 (And.intro @isnilA.eq_1 (And.intro @isnilA.eq_2 (And.intro @isnilA.eq_3 (And.intro @isnilA.eq_4 (And.intro @isnilA.eq_5 (And.intro @isnilA.eq_6 (And.intro @isnilA.eq_7 (And.intro @isnilA.eq_8 (And.intro @isnilA.eq_9 (And.intro @isnilA.eq_10 (And.intro @unA.eq_1 (And.intro @unA.eq_2 (And.intro @unA.eq_3 (And.intro @unVal.eq_1 (And.intro @unVal.eq_2 (And.intro @unVal.eq_3 (And.intro @unVal.eq_4 (And.intro @unVal.eq_5 (And.intro @unVal.eq_6 (And.intro @convA.eq_1 (And.intro @convA.eq_2 (And.intro @nilA.eq_1 (And.intro @nilA.eq_2 (And.intro @nilA.eq_3 (And.intro @sconvA.eq_1 (And.intro @sconvA.eq_2 (And.intro @b2sA.eq_1 (And.intro @b2sA.eq_2 (And.intro @b2sA.eq_3 (And.intro @b2sA.eq_4 (And.intro @b2sOf.eq_1 (And.intro @bytesOf.eq_1 (And.intro @bytesOf.eq_2 (And.intro @bytesOf.eq_3 (And.intro @mmA.eq_1 (And.intro @mmA.eq_2 (And.intro @mmA.eq_3 (And.intro @srcA.eq_1 (And.intro @srcA.eq_2 (And.intro @srcA.eq_3 (And.intro @srcA.eq_4 (And.intro @appA.eq_1 (And.intro @appA.eq_2 (And.intro @appA.eq_3 (And.intro @sliceA.eq_1 (And.intro @sliceA.eq_2 (And.intro @sliceA.eq_3 (And.intro @sliceA.eq_4 (And.intro @lohi.eq_1 (And.intro @lohi.eq_2 (And.intro @lohi.eq_3 (And.intro @lohi.eq_4 (And.intro @lohi.eq_5 (And.intro @mkslA.eq_1 (And.intro @mkslA.eq_2 (And.intro @mkslA.eq_3 (And.intro @aidxA.eq_1 (And.intro @aidxA.eq_2 (And.intro @aidxA.eq_3 (And.intro @aidxA.eq_4 (And.intro @capA.eq_1 (And.intro @capA.eq_2 (And.intro @appzA.eq_1 (And.intro @appzA.eq_2 (And.intro @appzA.eq_3 (And.intro @appzA.eq_4 (And.intro @appzA.eq_5 (And.intro @copyA.eq_1 (And.intro @copyA.eq_2 (And.intro @slice0A.eq_1 (And.intro @slice0A.eq_2 (And.intro @slice0A.eq_3 (And.intro @slice0A.eq_4 (And.intro @sidxA.eq_1 (And.intro @sidxA.eq_2 (And.intro @sidxA.eq_3 (And.intro @envA.eq_1 (And.intro @rowsM.eq_1 (And.intro @rowsM.eq_2 (And.intro @outW.eq_1 (And.intro @outW.eq_2 (And.intro @fB.eq_1 (And.intro @fI.eq_1 (And.intro @fL.eq_1 (And.intro @fWrs.eq_1 (And.intro @aDk.eq_1 (And.intro @aRec.eq_1 (And.intro @aPt.eq_1 (And.intro @mlookA.eq_1 (And.intro @mlookA.eq_2 (And.intro @mlookA.eq_3 (And.intro @mupdA.eq_1 (And.intro @mupdA.eq_2 (And.intro @mupdA.eq_3 (And.intro @mlenA.eq_1 (And.intro @mlenA.eq_2 (And.intro @mfind.eq_1 (And.intro @mfind.eq_2 (And.intro @mfind.eq_3 (And.intro @mput.eq_1 (And.intro @mput.eq_2 (And.intro @mput.eq_3 (And.intro @oneA.eq_1 (And.intro @oneA.eq_2 (And.intro @oneA.eq_3 (And.intro @oneA.eq_4 (And.intro @oneA.eq_5 (And.intro @oneA.eq_6 (And.intro @oneA.eq_7 (And.intro @ssliceA.eq_1 (And.intro @ssliceA.eq_2 (And.intro @s2bA.eq_1 (And.intro @s2bA.eq_2 (And.intro @mlook0A.eq_1 (And.intro @mlook0A.eq_2 (And.intro @mlook0A.eq_3 (And.intro @keyL.eq_1 (And.intro @keyL.eq_2 (And.intro @keyL.eq_3 (And.intro @keyL.eq_4 @keyL.eq_5))))))))))))))))))))))))))))))))))))))))))))))))))))))))))))))))))))))))))))))))))))))))))))))))))))))))))))))))))))))))))))))))))))))))))))))))))))))))))))))))))))))))))))))))))))))))))))))))))))))))))))))))))) := (And.intro @SS (And.intro @Option.map_some.{0,0} (And.intro @Option.map_none.{0,0} (And.intro @List.drop_zero.{0} (And.intro @List.take_succ_cons.{0} (And.intro @List.take_zero.{0} (And.intro @List.take_nil.{0} (And.intro @Nat.mul_one (And.intro @Nat.one_mul (And.intro @List.cons_append.{0} (And.intro @List.nil_append.{0} (And.intro @boxA.eq_1 (And.intro @cellsOf.eq_1 (And.intro @cellsOf.eq_2 (And.intro @cellsOf.eq_3 (And.intro @cellsOf.eq_4 (And.intro @cellsOf.eq_5 (And.intro @cellsOf.eq_6 (And.intro @foffA.eq_1 (And.intro @foffA.eq_2 (And.intro @foffA.eq_3 (And.intro @loadA.eq_1 (And.intro @loadA.eq_2 (And.intro @loadA.eq_3 (And.intro @loadA.eq_4 (And.intro @ldA.eq_1 (And.intro @idxA.eq_1 (And.intro @idxA.eq_2 (And.intro @idxA.eq_3 (And.intro @idxA.eq_4 (And.intro @idxA.eq_5 (And.intro @fldA.eq_1 (And.intro @fldA.eq_2 (And.intro @binA.eq_1 (And.intro @binA.eq_2 (And.intro @binA.eq_3 (And.intro @binA.eq_4 (And.intro @binA.eq_5 (And.intro @binVal.eq_1 (And.intro @binVal.eq_2 (And.intro @binVal.eq_3 (And.intro @isSh.eq_1 (And.intro @isSh.eq_2 (And.intro @isSh.eq_3 (And.intro @intVal.eq_1 (And.intro @intVal.eq_2 (And.intro @intVal.eq_3 (And.intro @intVal.eq_4 (And.intro @intVal.eq_5 (And.intro @intVal.eq_6 (And.intro @intVal.eq_7 (And.intro @intVal.eq_8 (And.intro @intVal.eq_9 (And.intro @intVal.eq_10 (And.intro @intVal.eq_11 (And.intro @intVal.eq_12 (And.intro @intVal.eq_13 (And.intro @intVal.eq_14 (And.intro @intVal.eq_15 (And.intro @lenA.eq_1 (And.intro @lenA.eq_2 (And.intro @lenA.eq_3 (And.intro @lenA.eq_4 (And.intro @lenA.eq_5 (And.intro @slenA.eq_1 (And.intro @slenA.eq_2 (And.intro @pickA.eq_1 (And.intro @pickA.eq_2 (And.intro @storeA.eq_1 (And.intro @storeA.eq_2 (And.intro @storeA.eq_3 (And.intro @storeA.eq_4 (And.intro @setN.eq_1 (And.intro @setN.eq_2 (And.intro @getN.eq_1 (And.intro @getN.eq_2 (And.intro @fillA.eq_1 (And.intro @fillA.eq_2 (And.intro @extA.eq_1 (And.intro @extA.eq_2 (And.intro @beqA.eq_1 (And.intro @beqA.eq_2 (And.intro @beqA.eq_3 (And.intro @eqsA.eq_1 (And.intro @eqsA.eq_2 (And.intro @eqsA.eq_3 (And.intro @eqL.eq_1 (And.intro @eqL.eq_2 (And.intro @eqL.eq_3 (And.intro @eqL.eq_4 (And.intro @eqL.eq_5 (And.intro @isnilA.eq_1 (And.intro @isnilA.eq_2 (And.intro @isnilA.eq_3 (And.intro @isnilA.eq_4 (And.intro @isnilA.eq_5 (And.intro @isnilA.eq_6 (And.intro @isnilA.eq_7 (And.intro @isnilA.eq_8 (And.intro @isnilA.eq_9 (And.intro @isnilA.eq_10 (And.intro @unA.eq_1 (And.intro @unA.eq_2 (And.intro @unA.eq_3 (And.intro @unVal.eq_1 (And.intro @unVal.eq_2 (And.intro @unVal.eq_3 (And.intro @unVal.eq_4 (And.intro @unVal.eq_5 (And.intro @unVal.eq_6 (And.intro @convA.eq_1 (And.intro @convA.eq_2 (And.intro @nilA.eq_1 (And.intro @nilA.eq_2 (And.intro @nilA.eq_3 (And.intro @sconvA.eq_1 (And.intro @sconvA.eq_2 (And.intro @b2sA.eq_1 (And.intro @b2sA.eq_2 (And.intro @b2sA.eq_3 (And.intro @b2sA.eq_4 (And.intro @b2sOf.eq_1 (And.intro @bytesOf.eq_1 (And.intro @bytesOf.eq_2 (And.intro @bytesOf.eq_3 (And.intro @mmA.eq_1 (And.intro @mmA.eq_2 (And.intro @mmA.eq_3 (And.intro @srcA.eq_1 (And.intro @srcA.eq_2 (And.intro @srcA.eq_3 (And.intro @srcA.eq_4 (And.intro @appA.eq_1 (And.intro @appA.eq_2 (And.intro @appA.eq_3 (And.intro @sliceA.eq_1 (And.intro @sliceA.eq_2 (And.intro @sliceA.eq_3 (And.intro @sliceA.eq_4 (And.intro @lohi.eq_1 (And.intro @lohi.eq_2 (And.intro @lohi.eq_3 (And.intro @lohi.eq_4 (And.intro @lohi.eq_5 (And.intro @mkslA.eq_1 (And.intro @mkslA.eq_2 (And.intro @mkslA.eq_3 (And.intro @aidxA.eq_1 (And.intro @aidxA.eq_2 (And.intro @aidxA.eq_3 (And.intro @aidxA.eq_4 (And.intro @capA.eq_1 (And.intro @capA.eq_2 (And.intro @appzA.eq_1 (And.intro @appzA.eq_2 (And.intro @appzA.eq_3 (And.intro @appzA.eq_4 (And.intro @appzA.eq_5 (And.intro @copyA.eq_1 (And.intro @copyA.eq_2 (And.intro @slice0A.eq_1 (And.intro @slice0A.eq_2 (And.intro @slice0A.eq_3 (And.intro @slice0A.eq_4 (And.intro @sidxA.eq_1 (And.intro @sidxA.eq_2 (And.intro @sidxA.eq_3 (And.intro @envA.eq_1 (And.intro @rowsM.eq_1 (And.intro @rowsM.eq_2 (And.intro @outW.eq_1 (And.intro @outW.eq_2 (And.intro @fB.eq_1 (And.intro @fI.eq_1 (And.intro @fL.eq_1 (And.intro @fWrs.eq_1 (And.intro @aDk.eq_1 (And.intro @aRec.eq_1 (And.intro @aPt.eq_1 (And.intro @mlookA.eq_1 (And.intro @mlookA.eq_2 (And.intro @mlookA.eq_3 (And.intro @mupdA.eq_1 (And.intro @mupdA.eq_2 (And.intro @mupdA.eq_3 (And.intro @mlenA.eq_1 (And.intro @mlenA.eq_2 (And.intro @mfind.eq_1 (And.intro @mfind.eq_2 (And.intro @mfind.eq_3 (And.intro @mput.eq_1 (And.intro @mput.eq_2 (And.intro @mput.eq_3 (And.intro @oneA.eq_1 (And.intro @oneA.eq_2 (And.intro @oneA.eq_3 (And.intro @oneA.eq_4 (And.intro @oneA.eq_5 (And.intro @oneA.eq_6 (And.intro @oneA.eq_7 (And.intro @ssliceA.eq_1 (And.intro @ssliceA.eq_2 (And.intro @s2bA.eq_1 (And.intro @s2bA.eq_2 (And.intro @mlook0A.eq_1 (And.intro @mlook0A.eq_2 (And.intro @mlook0A.eq_3 (And.intro @keyL.eq_1 (And.intro @keyL.eq_2 (And.intro @keyL.eq_3 (And.intro @keyL.eq_4 @keyL.eq_5)))))))))))))))))))))))))))))))))))))))))))))))))))))))))))))))))))))))))))))))))))))))))))))))))))))))))))))))))))))))))))))))))))))))))))))))))))))))))))))))))))))))))))))))))))))))))))))))))))))))))))))))))))
theorem WT : type_of% (And.intro @tk_B (And.intro @tk_I (And.intro @tk_L (And.intro @tk_Wrs (And.intro @AlL_append (And.intro @renL_append (And.intro @s_envOf (And.intro @s_envOf0 (And.intro @s_heapOf (And.intro @s_heapOf0 (And.intro @s_put (And.intro @s_put0 (And.intro @s_put1 (And.intro @s_app0 (And.intro @s_app1 (And.intro @al_B (And.intro @al_I (And.intro @al_L (And.intro @al_Wrs (And.intro @ren_B (And.intro @ren_I (And.intro @ren_L (And.intro @ren_Wrs (And.intro @okL.eq_1 (And.intro @okL.eq_2 (And.intro @okH.eq_1 (And.intro @okH.eq_2 (And.intro @rowIs.eq_1 (And.intro @rowIs.eq_2 (And.intro @okV.eq_1 (And.intro @okV.eq_2 (And.intro @okHV.eq_1 (And.intro @okHV.eq_2 (And.intro @rowVt.eq_1 (And.intro @rowVt.eq_2 (And.intro @vtL.eq_1 (And.intro @vtL.eq_2 (And.intro @vtL.eq_3 (And.intro @okF.eq_1 (And.intro @okF.eq_2 (And.intro @okHF.eq_1 (And.intro @okHF.eq_2 (And.intro @rowFz.eq_1 (And.intro @rowFz.eq_2 (And.intro @fzL.eq_1 (And.intro @fzL.eq_2 (And.intro @fzL.eq_3 (And.intro @fzV.eq_1 (And.intro @fzV.eq_2 (And.intro @fzOne.eq_1 (And.intro @fzOne.eq_2 (And.intro @fzOne.eq_3 (And.intro @nilLike.eq_1 (And.intro @nilLike.eq_2 (And.intro @oldLike.eq_1 (And.intro @oldLike.eq_2 (And.intro @rn.eq_1 (And.intro @Al.eq_1 (And.intro @Al.eq_2 (And.intro @Al.eq_3 (And.intro @Al.eq_4 (And.intro @Al.eq_5 (And.intro @Al.eq_6 (And.intro @Al.eq_7 (And.intro @Al.eq_8 (And.intro @Al.eq_9 (And.intro @Al.eq_10 (And.intro @Al.eq_11 (And.intro @Al.eq_12 (And.intro @Al.eq_13 (And.intro @Al.eq_14 (And.intro @Al.eq_15 (And.intro @AlL.eq_1 (And.intro @AlL.eq_2 (And.intro @ren.eq_1 (And.intro @ren.eq_2 (And.intro @ren.eq_3 (And.intro @ren.eq_4 (And.intro @ren.eq_5 (And.intro @ren.eq_6 (And.intro @ren.eq_7 (And.intro @ren.eq_8 (And.intro @ren.eq_9 (And.intro @ren.eq_10 (And.intro @ren.eq_11 (And.intro @ren.eq_12 (And.intro @ren.eq_13 (And.intro @ren.eq_14 (And.intro @ren.eq_15 (And.intro @renL.eq_1 (And.intro @renL.eq_2 (And.intro @fB.eq_1 (And.intro @fI.eq_1 (And.intro @fL.eq_1 @fWrs.eq_1)))))))))))))))))))))))))))))))))))))))))))))))))))))))))))))))))))))))))))))))))))))))))))))) := (And.intro @tk_B (And.intro @tk_I (And.intro @tk_L (And.intro @tk_Wrs (And.intro @AlL_append (And.intro @renL_append (And.intro @s_envOf (And.intro @s_envOf0 (And.intro @s_heapOf (And.intro @s_heapOf0 (And.intro @s_put (And.intro @s_put0 (And.intro @s_put1 (And.intro @s_app0 (And.intro @s_app1 (And.intro @al_B (And.intro @al_I (And.intro @al_L (And.intro @al_Wrs (And.intro @ren_B (And.intro @ren_I (And.intro @ren_L (And.intro @ren_Wrs (And.intro @okL.eq_1 (And.intro @okL.eq_2 (And.intro @okH.eq_1 (And.intro @okH.eq_2 (And.intro @rowIs.eq_1 (And.intro @rowIs.eq_2 (And.intro @okV.eq_1 (And.intro @okV.eq_2 (And.intro @okHV.eq_1 (And.intro @okHV.eq_2 (And.intro @rowVt.eq_1 (And.intro @rowVt.eq_2 (And.intro @vtL.eq_1 (And.intro @vtL.eq_2 (And.intro @vtL.eq_3 (And.intro @okF.eq_1 (And.intro @okF.eq_2 (And.intro @okHF.eq_1 (And.intro @okHF.eq_2 (And.intro @rowFz.eq_1 (And.intro @rowFz.eq_2 (And.intro @fzL.eq_1 (And.intro @fzL.eq_2 (And.intro @fzL.eq_3 (And.intro @fzV.eq_1 (And.intro @fzV.eq_2 (And.intro @fzOne.eq_1 (And.intro @fzOne.eq_2 (And.intro @fzOne.eq_3 (And.intro @nilLike.eq_1 (And.intro @nilLike.eq_2 (And.intro @oldLike.eq_1 (And.intro @oldLike.eq_2 (And.intro @rn.eq_1 (And.intro @Al.eq_1 (And.intro @Al.eq_2 (And.intro @Al.eq_3 (And.intro @Al.eq_4 (And.intro @Al.eq_5 (And.intro @Al.eq_6 (And.intro @Al.eq_7 (And.intro @Al.eq_8 (And.intro @Al.eq_9 (And.intro @Al.eq_10 (And.intro @Al.eq_11 (And.intro @Al.eq_12 (And.intro @Al.eq_13 (And.intro @Al.eq_14 (And.intro @Al.eq_15 (And.intro @AlL.eq_1 (And.intro @AlL.eq_2 (And.intro @ren.eq_1 (And.intro @ren.eq_2 (And.intro @ren.eq_3 (And.intro @ren.eq_4 (And.intro @ren.eq_5 (And.intro @ren.eq_6 (And.intro @ren.eq_7 (And.intro @ren.eq_8 (And.intro @ren.eq_9 (And.intro @ren.eq_10 (And.intro @ren.eq_11 (And.intro @ren.eq_12 (And.intro @ren.eq_13 (And.intro @ren.eq_14 (And.intro @ren.eq_15 (And.intro @renL.eq_1 (And.intro @renL.eq_2 (And.intro @fB.eq_1 (And.intro @fI.eq_1 (And.intro @fL.eq_1 @fWrs.eq_1))))))))))))))))))))))))))))))))))))))))))))))))))))))))))))))))))))))))))))))))))))))))))))))
theorem ET : type_of% (And.intro @s_envOf (And.intro @s_envOf0 (And.intro @s_heapOf (And.intro @s_heapOf0 (And.intro @s_put1 (And.intro @s_app0 (And.intro @s_app1 (And.intro @resL.eq_1 (And.intro @resL.eq_2 (And.intro @resOne.eq_1 (And.intro @resOne.eq_2 (And.intro @tupOf.eq_1 (And.intro @tupOf.eq_2 (And.intro @getN.eq_1 @getN.eq_2)))))))))))))) := (And.intro @s_envOf (And.intro @s_envOf0 (And.intro @s_heapOf (And.intro @s_heapOf0 (And.intro @s_put1 (And.intro @s_app0 (And.intro @s_app1 (And.intro @resL.eq_1 (And.intro @resL.eq_2 (And.intro @resOne.eq_1 (And.intro @resOne.eq_2 (And.intro @tupOf.eq_1 (And.intro @tupOf.eq_2 (And.intro @getN.eq_1 @getN.eq_2))))))))))))))
end Go.Proofs.YtonglhkiobibgaaGreatDoor
namespace Go.Proofs.YtonglhkiobibgaaGreatDoor
open Go.RowKit
def reachB : Nat := 140737488351232
theorem VRl_app {c : Cx} : ∀ {a b : List AV} {us : List Value}, VRl c (a ++ b) us ↔ ∃ u1 u2, us = u1 ++ u2 ∧ VRl c a u1 ∧ VRl c b u2
  | [], b, us => ⟨fun h => ⟨[], us, rfl, rfl, h⟩, fun ⟨u1, u2, e, h1, h2⟩ => by rw [VRl] at h1; subst h1; rw [e]; exact h2⟩
  | x :: a, b, us => by
    rw [List.cons_append, VRl]
    constructor
    · rintro ⟨u, us', rfl, h1, h2, h3⟩
      obtain ⟨u1, u2, rfl, h4, h5⟩ := VRl_app.1 h3
      exact ⟨u :: u1, u2, rfl, ⟨u, u1, rfl, h1, h2, h4⟩, h5⟩
    · rintro ⟨u1, u2, rfl, h1, h2⟩
      rw [VRl] at h1
      obtain ⟨u, us', rfl, h3, h4, h5⟩ := h1
      exact ⟨u, us' ++ u2, rfl, h3, h4, VRl_app.2 ⟨us', u2, rfl, h5, h2⟩⟩
/-- the moment of a call from outside -/
def cx0 (W : World) : Cx := ⟨W, W.heap.size, fun _ => none, fun _ => none, fun _ => False, fun _ => .no⟩
theorem hr0 (W : World) (hg : ∀ b v, GLOB b = some v → W.cell? ⟨b, 0, none⟩ = some v) : HR (cx0 W) := ⟨fun id y e cells h => by simp [cx0] at h, fun id id' b h => absurd rfl h, Nat.le_refl _, fun b h => h.elim, fun b v h => ⟨hg b v h, by rintro ⟨id, o, h, _⟩; simp [cx0] at h, fun h => h.elim⟩⟩
theorem ok0 (W : World) (b : Nat) : (cx0 W).ok false b := ⟨fun h => (by cases h), by rintro ⟨id, o, h, _⟩; simp [cx0] at h, fun h => h⟩
/-- a call from outside -/
theorem ASound.row {P : Program} {f : FuncId} {args : List AV} {b : Value} (h : ∀ nb, ASound P f args nb (.ret (.v b) [])) {W : World} {us : List Value} (hg : ∀ b v, GLOB b = some v → W.cell? ⟨b, 0, none⟩ = some v) (hv : VRt (cx0 W) args us) : Calls P f us.toArray W fun e W' => e = .returned b ∧ Below W.heap.size W W' := by
  refine ((h 0).2 (cx0 W) us _ _ _ rfl (hr0 W hg) (fun id _ => .inl rfl) hv).mono ?_
  rintro e w' ⟨v, d, rfl, rfl, h1, h2⟩
  rw [VR] at h1
  subst h1
  refine ⟨rfl, ⟨h2.grow.osE, h2.grow.tape, h2.grow.out, h2.grow.size, fun k hk => h2.grow.stay k hk ?_ (fun h => h.elim)⟩⟩
  rintro ⟨id, o, h3, _⟩
  simp [cx0] at h3
/-- What the readings of a type say: a datum. -/
structure Rd (P : Program) (t : TypeId) {α : Type} (e : Bool → α → List AV) (ok : α → Prop) : Prop where
  len : ∀ x, (e false x).length = P.cellsOf t
  rd : ∀ {H : Type} {enc : TypeId × Value → H} {W : World} {fuel : Nat} {cs : List Value} {x : DataW H × List MemPlace}, DataW.trod enc P W 0 (fun _ => true) true fuel t cs = some x → (x.1.weights P t).all (· ≤ reachBytes) = true → ∃ a, ok a ∧ VRl (cx0 W) (e false a) cs
section
variable {P : Program}
theorem rd_int {t : TypeId} {k : IntKind} (ht : P.underlying t = some (.int k)) (hc : P.cellsOf t = 1) : Rd P t (fun _ x => [.v (.int k x)]) (fun x => (Lit.int k x).wf = true) where
  len _ := hc.symm
  rd := by
    intro H enc W fuel cs x h _
    obtain ⟨n, rfl, _, hw⟩ := DataW.trod_int ht h
    exact ⟨n, hw, _, [], rfl, rfl, rfl, rfl⟩
theorem Rd.map {t : TypeId} {α β : Type} {e : Bool → α → List AV} {ok : α → Prop} (h : Rd P t e ok) {e' : Bool → β → List AV} {ok' : β → Prop} (f : α → β) (g : β → α) (hg : ∀ fr b, e' fr b = e fr (g b)) (he : ∀ fr a, e' fr (f a) = e fr a) (hok : ∀ a, ok a → ok' (f a)) : Rd P t e' ok' where
  len x := by rw [hg]; exact h.len _
  rd := by
    intro H enc W fuel cs x h1 h2
    obtain ⟨a, h3, h4⟩ := h.rd h1 h2
    exact ⟨f a, hok a h3, by rw [he]; exact h4⟩
theorem list_choose {α : Type} {Q : Nat → α → Prop} : ∀ n, (∀ i, i < n → ∃ a, Q i a) → ∃ l : List α, l.length = n ∧ ∀ i a, l[i]? = some a → Q i a
  | 0, _ => ⟨[], rfl, fun i a h => by simp at h⟩
  | n + 1, h => by
    obtain ⟨l, h1, h2⟩ := list_choose n fun i hi => h i (by omega)
    obtain ⟨a, ha⟩ := h n (by omega)
    refine ⟨l ++ [a], by simp [h1], fun i b hb => ?_⟩
    by_cases hi : i < n
    · rw [List.getElem?_append_left (by omega)] at hb; exact h2 i b hb
    · have hl := (List.getElem?_eq_some_iff.1 hb).1
      simp [h1] at hl
      have : i = n := by omega
      subst this
      rw [List.getElem?_append_right (by omega)] at hb
      simp [h1] at hb
      rw [← hb]; exact ha
theorem weightsAll_mem {H : Type} {e : TypeId} : ∀ {l : List (DataW H)} {p : Nat → Bool}, (DataW.weightsAll P e l).all p = true → ∀ d ∈ l, (d.weights P e).all p = true
  | [], _, _, d, hd => by simp at hd
  | x :: l, p, h, d, hd => by
    rw [DataW.weightsAll, List.all_append, Bool.and_eq_true] at h
    rcases List.mem_cons.1 hd with e1 | e1
    · rw [e1]; exact h.1
    · exact weightsAll_mem h.2 d e1
theorem rd_slice {t te : TypeId} {α : Type} {e : Bool → α → List AV} {ok : α → Prop} {B : Nat} (ht : P.underlying t = some (.slice te)) (hc : P.cellsOf t = 1) (hb : P.bytesOf te = B) (hp : 0 < P.cellsOf te) (h : Rd P te e ok) :
    Rd P t (fun fr (xs : List α) => [.fs fr (xs.flatMap (e fr)) xs.length]) (fun xs => xs.length * B ≤ reachB ∧ ∀ x ∈ xs, ok x) where
  len _ := hc.symm
  rd := by
    intro H enc W fuel cs x h1 h2
    rcases DataW.trod_slice ht h1 with ⟨rfl, rfl⟩ | ⟨a, len, cap, elems, rest, n, _, rfl, rfl, _, hl, hm, hlen, hel, _, _⟩
    · refine ⟨[], ⟨by simp, by simp⟩, _, [], rfl, rfl, ?_, rfl⟩
      rw [VR]
      exact ⟨none, 0, rfl, Nat.le_refl _, fun h => absurd rfl h⟩
    · simp only [DataW.weights, ht, List.all_cons, List.all_append, Bool.and_eq_true, decide_eq_true_eq] at h2
      obtain ⟨hw, hwe, _⟩ := h2
      have each : ∀ i, i < len → ∃ y, ok y ∧ ∃ us, VRl (cx0 W) (e false y) us ∧ us.length = P.cellsOf te ∧ ∀ j, j < P.cellsOf te → W.cell? ((a.add (i * P.cellsOf te)).add j) = us[j]? := by
        intro i hi
        have h3 := hel i hi
        rw [List.getElem?_eq_getElem (by omega), Option.bind_eq_some_iff] at h3
        obtain ⟨us, h4, h5⟩ := h3
        obtain ⟨_, h6, h7⟩ := World.cells?_some h4
        obtain ⟨y, h8, h9⟩ := h.rd h5 (weightsAll_mem hwe _ (List.mem_map.2 ⟨elems[i], List.getElem_mem _, rfl⟩))
        exact ⟨y, h8, us, h9, h6, h7⟩
      obtain ⟨xs, hxl, hxs⟩ := list_choose len each
      refine ⟨xs, ⟨?_, fun y hy => ?_⟩, _, [], rfl, rfl, ?_, rfl⟩
      · rw [hb] at hw
        simp at hw
        have : xs.length * B ≤ (elems.length + rest.length) * B := Nat.mul_le_mul_right _ (by omega)
        unfold reachB
        unfold reachBytes at hw
        omega
      · obtain ⟨i, hi⟩ := List.getElem?_of_mem hy
        exact (hxs i y hi).1
      · rw [VR]
        refine ⟨some a, cap, by rw [hxl], by omega, fun hne => ?_⟩
        have hn0 : 0 < xs.length := by omega
        have spot : a.spot = none := by
          obtain ⟨_, us, _, h6, h7⟩ := hxs 0 _ (List.getElem?_eq_getElem hn0)
          have h8 := h7 0 hp
          rw [List.getElem?_eq_getElem (by omega)] at h8
          simp only [Nat.zero_mul, Addr.add, if_true] at h8
          unfold World.cell? at h8
          split at h8
          · split at h8
            · cases h8
            · rename_i hs; cases hsp : a.spot with
              | none => rfl
              | some _ => rw [hsp] at hs; simp at hs
          · cases h8
        obtain ⟨b, off, sp⟩ := a
        simp only at spot
        subst spot
        have addr : ∀ k j, ((Addr.mk b off none).add k).add j = ⟨b, off + (k + j), none⟩ := by
          intro k j
          unfold Addr.add
          by_cases hk : k = 0 <;> by_cases hj : j = 0 <;> simp [hk, hj]
          omega
        have key : ∀ (j : Nat) q, (xs.flatMap (e false))[j]? = some q → ∃ u, W.cell? ⟨b, off + j, none⟩ = some u ∧ u.oneCell' = true ∧ VR (cx0 W) q u := by
          intro j q hj
          have hlt : j < xs.length * P.cellsOf te := by rw [← flat_len h.len xs]; exact (List.getElem?_eq_some_iff.1 hj).1
          have hi : j / P.cellsOf te < xs.length := Nat.div_lt_of_lt_mul (by rw [Nat.mul_comm]; exact hlt)
          have hr : j % P.cellsOf te < P.cellsOf te := Nat.mod_lt _ hp
          have ej : j / P.cellsOf te * P.cellsOf te + j % P.cellsOf te = j := by rw [Nat.mul_comm]; exact Nat.div_add_mod _ _
          obtain ⟨_, us, h5, h6, h7⟩ := hxs _ _ (List.getElem?_eq_getElem hi)
          rw [← ej, flat_get h.len (List.getElem?_eq_getElem hi) _ hr] at hj
          obtain ⟨u, k1, k2, k3⟩ := (VRl_iff.1 h5).2 _ q hj
          have h8 := h7 _ hr
          rw [addr, ej, k1] at h8
          exact ⟨u, h8, k2, k3⟩
        have hb0 : b < W.heap.size := by
          have hfl : 0 < (xs.flatMap (e false)).length := by rw [flat_len h.len xs]; exact Nat.mul_pos hn0 hp
          obtain ⟨u, h5, _⟩ := key 0 _ (List.getElem?_eq_getElem hfl)
          exact cell_lt h5
        exact ⟨b, off, rfl, hb0, ok0 W b, VRm_iff.2 key⟩
/-- the same of fields, from a place on -/
structure RdF (P : Program) (fs : List Field) (o n : Nat) {α : Type} (e : Bool → α → List AV) (ok : α → Prop) : Prop where
  len : ∀ x, (e false x).length = n
  rd : ∀ {H : Type} {enc : TypeId × Value → H} {W : World} {fuel : Nat} {cs : List Value} {xs : List (DataW H × List MemPlace)},
    (∀ (i : Nat) (f : Field), fs[i]? = some f → DataW.trod enc P W 0 (fun _ => true) true fuel f.type ((cs.drop f.offset).take (P.cellsOf f.type)) = xs[i]?) → xs.length = fs.length →
    (DataW.weightsEach P (fs.map (·.type)) (xs.map (·.1))).all (· ≤ reachBytes) = true → ∃ a, ok a ∧ VRl (cx0 W) (e false a) ((cs.drop o).take n)
theorem RdF.nil {o : Nat} : RdF P [] o 0 (fun _ (_ : Unit) => []) (fun _ => True) where
  len _ := rfl
  rd := by
    intro H enc W fuel cs xs _ _ _
    exact ⟨(), trivial, by simp [VRl]⟩
theorem RdF.cons {f : Field} {fs : List Field} {o c n : Nat} {α β : Type} {e1 : Bool → α → List AV} {ok1 : α → Prop} {e2 : Bool → β → List AV} {ok2 : β → Prop} (ho : f.offset = o) (hc : P.cellsOf f.type = c) (h1 : Rd P f.type e1 ok1) (h2 : RdF P fs (o + c) n e2 ok2) :
    RdF P (f :: fs) o (c + n) (fun fr (x : α × β) => e1 fr x.1 ++ e2 fr x.2) (fun x => ok1 x.1 ∧ ok2 x.2) where
  len x := by rw [List.length_append, h1.len, h2.len, hc]
  rd := by
    intro H enc W fuel cs xs h3 h4 h5
    cases xs with
    | nil => simp at h4
    | cons x xs =>
      rw [List.map_cons, List.map_cons, DataW.weightsEach, List.all_append, Bool.and_eq_true] at h5
      have h6 := h3 0 f rfl
      rw [List.getElem?_cons_zero, ho, hc] at h6
      obtain ⟨a, k1, k2⟩ := h1.rd h6 h5.1
      obtain ⟨b, k3, k4⟩ := h2.rd (xs := xs) (fun i f' hf => by have := h3 (i + 1) f' (by simpa using hf); simpa using this) (by simpa using h4) h5.2
      refine ⟨(a, b), ⟨k1, k3⟩, ?_⟩
      rw [List.take_add, List.drop_drop]
      exact VRl_app.2 ⟨_, _, rfl, k2, k4⟩
theorem rd_struct {t : TypeId} {fs : Array Field} {n : Nat} {α : Type} {e : Bool → α → List AV} {ok : α → Prop} (ht : P.underlying t = some (.struct fs)) (hc : P.cellsOf t = n) (h : RdF P fs.toList 0 n e ok) : Rd P t e ok where
  len x := by rw [h.len, hc]
  rd := by
    intro H enc W fuel cs x h1 h2
    obtain ⟨xs, m, _, rfl, h3, h4, h5⟩ := DataW.trod_struct ht h1
    simp only [DataW.weights, ht] at h2
    obtain ⟨a, k1, k2⟩ := h.rd (fun i f hf => h5 i f (by simpa using hf)) (by simpa using h4) h2
    rw [List.drop_zero, List.take_of_length_le (by omega)] at k2
    exact ⟨a, k1, k2⟩
end
end Go.Proofs.YtonglhkiobibgaaGreatDoor
namespace Go.Proofs.YtonglhkiobibgaaGreatDoor
open Go.RowKit
/-- one bit of a sum -/
def cbit (c : BitVec 32) : BitVec 32 := if c &&& 1#32 = 1#32 then (c >>> 1) ^^^ 0xedb88320#32 else c >>> 1
theorem and1_iff (c : BitVec 32) : (c &&& 1#32 = 1#32) ↔ c.getLsbD 0 = true := by
  constructor
  · intro h
    have := congrArg (fun x => x.getLsbD 0) h
    simpa using this
  · intro h
    apply BitVec.eq_of_getLsbD_eq
    intro i hi
    rcases i with _ | i
    · simp [h]
    · simp
theorem cbit_xor (a b : BitVec 32) : cbit (a ^^^ b) = cbit a ^^^ cbit b := by
  unfold cbit
  simp only [and1_iff, BitVec.getLsbD_xor, BitVec.ushiftRight_xor_distrib]
  cases a.getLsbD 0 <;> cases b.getLsbD 0 <;> simp
  · rw [BitVec.xor_assoc]
  · rw [BitVec.xor_assoc, BitVec.xor_assoc, BitVec.xor_comm (b >>> 1)]
  · rw [BitVec.xor_assoc, BitVec.xor_comm (b >>> 1), ← BitVec.xor_assoc 3988292384#32, BitVec.xor_self, BitVec.zero_xor]
theorem cbit_even {c : BitVec 32} (h : c.getLsbD 0 = false) : cbit c = c >>> 1 := by
  unfold cbit; rw [if_neg (by rw [and1_iff, h]; decide)]
def cbit4 (c : BitVec 32) : BitVec 32 := cbit (cbit (cbit (cbit c)))
theorem cbit4_nib (c : BitVec 32) : cbit4 c = (c >>> 4) ^^^ cbit4 (c &&& 15#32) := by
  have h : c = (c &&& ~~~15#32) ^^^ (c &&& 15#32) := by
    apply BitVec.eq_of_getLsbD_eq
    intro i hi
    simp only [BitVec.getLsbD_xor, BitVec.getLsbD_and, BitVec.getLsbD_not, hi, decide_true, Bool.true_and]
    cases c.getLsbD i <;> cases (15#32).getLsbD i <;> rfl
  have lin : ∀ a b, cbit4 (a ^^^ b) = cbit4 a ^^^ cbit4 b := by
    intro a b; unfold cbit4; simp only [cbit_xor]
  have hi : cbit4 (c &&& ~~~15#32) = c >>> 4 := by
    unfold cbit4
    have g : ∀ k, (c &&& ~~~15#32).getLsbD k = (c.getLsbD k && decide (4 ≤ k)) := by
      intro k
      by_cases hk : k < 32
      · rw [BitVec.getLsbD_and, BitVec.getLsbD_not]
        simp only [hk, decide_true, Bool.true_and]
        congr 1
        have : ∀ k, k < 32 → (!((15#32).getLsbD k)) = decide (4 ≤ k) := by decide
        exact this k hk
      · have h1 : c.getLsbD k = false := BitVec.getLsbD_of_ge c k (by omega)
        rw [BitVec.getLsbD_and, h1]; rfl
    rw [cbit_even (c := c &&& ~~~15#32) (by rw [g]; simp)]
    rw [cbit_even (c := (c &&& ~~~15#32) >>> 1) (by rw [BitVec.getLsbD_ushiftRight, g]; simp)]
    rw [cbit_even (c := (c &&& ~~~15#32) >>> 1 >>> 1) (by rw [BitVec.getLsbD_ushiftRight, BitVec.getLsbD_ushiftRight, g]; simp)]
    rw [cbit_even (c := (c &&& ~~~15#32) >>> 1 >>> 1 >>> 1) (by rw [BitVec.getLsbD_ushiftRight, BitVec.getLsbD_ushiftRight, BitVec.getLsbD_ushiftRight, g]; simp)]
    apply BitVec.eq_of_getLsbD_eq
    intro i hi
    simp only [BitVec.getLsbD_ushiftRight, g]
    simp only [show 1 + (1 + (1 + (1 + i))) = 4 + i from by omega]
    simp
  conv => lhs; rw [h]
  rw [lin, hi]
/-- an octet more -/
def cbyte (c : BitVec 32) (x : Int) : BitVec 32 := cbit4 (cbit4 (c ^^^ BitVec.ofInt 32 x))
def cgo (c : BitVec 32) (l : List Int) : BitVec 32 := l.foldl cbyte c
def crc (l : List Int) : BitVec 32 := ~~~ (cgo (~~~ 0#32) l)
def low4 (c : BitVec 32) : List Int := [(c.toNat : Int) % 256, ((c >>> 8).toNat : Int) % 256, ((c >>> 16).toNat : Int) % 256, ((c >>> 24).toNat : Int) % 256]
def sealB (l : List Int) : List Int := l ++ low4 (crc l)
/-- what is opened, and the error -/
def openB (l : List Int) : List Int × Int :=
  if l.length < 4 then ([], 8) else if l.drop (l.length - 4) = low4 (crc (l.take (l.length - 4))) then (l.take (l.length - 4), 0) else ([], 21)
theorem u32_wrap (x : Int) : IntKind.u32.wrap x = ((BitVec.ofInt 32 x).toNat : Int) := by
  rw [BitVec.toNat_ofInt]
  have h : IntKind.u32.wrap x = x % 4294967296 := by simp [IntKind.wrap, IntKind.bits, IntKind.signed]
  rw [h]
  have := Int.emod_nonneg x (show (4294967296 : Int) ≠ 0 by decide)
  show x % 4294967296 = (((x % ((2 ^ 32 : Nat) : Int)).toNat : Nat) : Int)
  rw [show ((2 ^ 32 : Nat) : Int) = 4294967296 from rfl]
  omega
theorem u32_back (c : BitVec 32) : BitVec.ofInt 32 (c.toNat : Int) = c := by simp
theorem and_u32 (a b : Int) : IntKind.u32.wrap ((BitVec.ofInt IntKind.u32.bits a &&& BitVec.ofInt IntKind.u32.bits b).toNat : Int) = ((BitVec.ofInt 32 a &&& BitVec.ofInt 32 b).toNat : Int) := by
  rw [u32_wrap]
  exact congrArg (fun c : BitVec 32 => (c.toNat : Int)) (u32_back (BitVec.ofInt 32 a &&& BitVec.ofInt 32 b))
theorem xor_u32 (a b : Int) : IntKind.u32.wrap ((BitVec.ofInt IntKind.u32.bits a ^^^ BitVec.ofInt IntKind.u32.bits b).toNat : Int) = ((BitVec.ofInt 32 a ^^^ BitVec.ofInt 32 b).toNat : Int) := by
  rw [u32_wrap]
  exact congrArg (fun c : BitVec 32 => (c.toNat : Int)) (u32_back (BitVec.ofInt 32 a ^^^ BitVec.ofInt 32 b))
theorem not_u32 (a : Int) : IntKind.u32.wrap ((BitVec.ofInt IntKind.u32.bits (if IntKind.u32.signed = true then -1 else IntKind.u32.max) ^^^ BitVec.ofInt IntKind.u32.bits a).toNat : Int) = ((~~~ BitVec.ofInt 32 a).toNat : Int) := by
  rw [xor_u32]
  have h : BitVec.ofInt 32 (if IntKind.u32.signed = true then -1 else IntKind.u32.max) = BitVec.allOnes 32 := by decide
  rw [h, BitVec.allOnes_xor]
theorem neg_u32 (a : Int) : IntKind.u32.wrap (0 - a) = ((- BitVec.ofInt 32 a).toNat : Int) := by
  rw [u32_wrap, Int.zero_sub, BitVec.ofInt_neg]
theorem sh_r (c : BitVec 32) (b : Int) (hb : 0 ≤ b) (h32 : b < 32) : shVal .shr .u32 (c.toNat : Int) b = some (.int .u32 ((c >>> b.toNat).toNat : Int)) := by
  have h1 : min b.toNat IntKind.u32.bits = b.toNat := by show min b.toNat 32 = _; omega
  simp only [shVal, if_neg (Int.not_lt.2 hb), h1]
  congr 2
  rw [Int.fdiv_eq_ediv_of_nonneg _ (by exact Int.le_of_lt (Int.pow_pos (by decide))), BitVec.toNat_ushiftRight, Nat.shiftRight_eq_div_pow]
  norm_cast
theorem sh_1 (c : BitVec 32) : shVal .shr .u32 (c.toNat : Int) 1 = some (.int .u32 ((c >>> 1).toNat : Int)) := sh_r c 1 (by decide) (by decide)
theorem sh_4 (c : BitVec 32) : shVal .shr .u32 (c.toNat : Int) 4 = some (.int .u32 ((c >>> 4).toNat : Int)) := sh_r c 4 (by decide) (by decide)
theorem u8_wrap (x : Int) : IntKind.u8.wrap x = x % 256 := by simp [IntKind.wrap, IntKind.bits, IntKind.signed]
/-- a bit, as the program says it -/
theorem cbit_prog (c : BitVec 32) : (c >>> 1) ^^^ (3988292384#32 &&& - (c &&& 1#32)) = cbit c := by
  unfold cbit
  by_cases h : c &&& 1#32 = 1#32
  · rw [if_pos h, h]; congr 1
  · have h0 : c &&& 1#32 = 0#32 := by
      rw [and1_iff] at h
      apply BitVec.eq_of_getLsbD_eq
      intro i hi
      rcases i with _ | i
      · simpa using h
      · simp
    rw [if_neg h, h0]; simp
theorem lit32 (n : Nat) : BitVec.ofInt 32 (n : Int) = BitVec.ofNat 32 n := by simp
def tabV (i : Nat) : AV := .v (.int .u32 ((cbit4 (BitVec.ofNat 32 i)).toNat : Int))
def tabA : List AV := (List.range 16).map tabV
theorem get_tab {i : Nat} (h : i < 16) : tabA[i]? = some (tabV i) := by simp [tabA, h]
theorem len_tab : tabA.length = 16 := by simp [tabA]
theorem setN_all : ∀ (l' l : List AV), l'.length = l.length → setN l 0 l' = l' := by
  have key : ∀ (l' l p : List AV), l'.length = l.length → setN (p ++ l) p.length l' = p ++ l' := by
    intro l'
    induction l' with
    | nil => intro l p h; have : l = [] := List.eq_nil_of_length_eq_zero (by simpa using h.symm); simp [setN, this]
    | cons a l' ih =>
      intro l p h
      cases l with
      | nil => simp at h
      | cons b l =>
        rw [setN, List.set_append_right _ _ (Nat.le_refl _), Nat.sub_self, List.set_cons_zero]
        have := ih l (p ++ [a]) (by simpa using h)
        simpa using this
  intro l' l h
  exact key l' l [] h
theorem al_tab {p : Nat → Prop} : AlL p tabA := AlL_map (e := tabV) (fun _ => trivial) _
theorem ren_tab {ρ : Nat → Nat} : renL ρ tabA = tabA := renL_id (p := fun _ => False) (fun _ h => h.elim) al_tab
theorem crc_snoc (c : BitVec 32) (l : List Int) (x : Int) : cgo c (l ++ [x]) = cbyte (cgo c l) x := by simp [cgo]
end Go.Proofs.YtonglhkiobibgaaGreatDoor
namespace Go.Proofs.YtonglhkiobibgaaGreatDoor
open Go.RowKit
variable {P : Program} {N m : Nat}
theorem Weak.imps {s : ASt} (l : List (Nat × AV)) (h : List (Nat × AObj)) (hl : ∀ t v, (t, v) ∈ l → Imp (s.env t) v)
    (hh : ∀ j o, (j, o) ∈ h → ∃ y e cs cs', s.σ j = some (.row y e cs) ∧ o = .row y e cs' ∧ (cs'.length = cs.length ∨ (e ≠ MAPE ∧ cs'.length ≤ cs.length)) ∧ ∀ (k : Nat) x', cs'[k]? = some x' → ∃ x, cs[k]? = some x ∧ Imp x x') : Weak N m s ⟨envOf l, heapOf h, s.nx⟩ := by
  intro c a hr hms
  generalize hd : (⟨c.w, c.B, c.φ, heapOf h, c.X, c.Y⟩ : Cx) = d
  have dw : d.w = c.w := by rw [← hd]
  have dB : d.B = c.B := by rw [← hd]
  have dX : d.X = c.X := by rw [← hd]
  have dY : d.Y = c.Y := by rw [← hd]
  have dσ : d.σ = heapOf h := by rw [← hd]
  have dφ : d.φ = c.φ := by rw [← hd]
  have live : ∀ j o, d.σ j = some o → ∃ y' e' cs cs', c.σ j = some (.row y' e' cs) ∧ o = .row y' e' cs' ∧ (cs'.length = cs.length ∨ (e' ≠ MAPE ∧ cs'.length ≤ cs.length)) ∧ ∀ (k : Nat) x', cs'[k]? = some x' → ∃ x, cs[k]? = some x ∧ Imp x x' := by
    intro j o hj
    rw [dσ] at hj
    obtain ⟨y', e', cs, cs', f1, f2⟩ := hh j o (heapOf_mem hj)
    exact ⟨y', e', cs, cs', by rw [hr.σ]; exact f1, f2⟩
  have hT : ∀ b, d.T b → c.T b := by
    rintro b ⟨k, o, e1, e2⟩
    obtain ⟨y', e', cs, cs', f1, _⟩ := live k o e1
    rw [dφ] at e2
    exact ⟨k, _, f1, e2⟩
  have g : Grow c d := Still.grow ⟨dY, dX, dB, by rw [dw], by rw [dw], by rw [dw], by rw [dw]; exact Nat.le_refl _, fun b _ _ => by rw [dw], fun b hb => .inl (hT b hb), fun b cs e f hb => ⟨cs, f, by rw [dw]; exact hb, rfl⟩⟩
  have nm : Names c d := fun k x hk => by rw [dφ]; exact hk
  refine ⟨d, dw, g, fun _ _ => by rw [dφ], ⟨hr.size, fun t => ?_, ⟨fun j y' e' cs' hs => ?_, fun i i' b e1 e2 e3 e4 => ?_, by rw [dB, dw]; exact hr.hr.base, fun b hb => by rw [dX] at hb; rw [dw]; exact hr.hr.xlt b hb, hr.hr.gl.grow g⟩, dσ, fun k hk hne => by rw [dφ] at hne; exact hr.fresh k hk hne⟩, hms⟩
  · simp only
    rcases envOf_mem (l := l) (t := t) with h9 | h9
    · rw [h9]; trivial
    · exact (hl _ _ h9 c _ (hr.env t)).mono g nm
  · obtain ⟨y2, e2, cs, cs2, f1, f2, f3, f4⟩ := live j _ hs
    cases f2
    rcases hr.hr.row j y' e' cs f1 with ⟨g1, g2⟩ | ⟨b, ca, g1, g2, g3, g4, g5⟩
    · refine .inl ⟨by rw [dφ]; exact g1, ?_, g2.2⟩
      rw [g2.1] at f3
      exact List.eq_nil_of_length_eq_zero (by simp at f3; rcases f3 with f3 | ⟨_, f3⟩ <;> simp [f3])
    · refine .inr ⟨b, ca, by rw [dφ]; exact g1, by rw [dw]; rcases f3 with f3 | ⟨f3, _⟩; exact g2.to f3; exact Blk.mk f3 (g2.cells2 f3), ⟨by rw [dB]; exact g3.1, by rw [dX]; exact g3.2⟩, by omega, fun k x' hk => ?_⟩
      obtain ⟨x, k1, k2⟩ := f4 k x' hk
      obtain ⟨u, k3, k4, k5⟩ := g5 k x k1
      exact ⟨u, k3, k4, (k2 c _ k5).mono g nm⟩
  · obtain ⟨o1, ho1⟩ := Option.ne_none_iff_exists'.1 e1
    obtain ⟨o2, ho2⟩ := Option.ne_none_iff_exists'.1 e2
    obtain ⟨_, _, _, _, f1, _⟩ := live i o1 ho1
    obtain ⟨_, _, _, _, f2, _⟩ := live i' o2 ho2
    rw [dφ] at e3 e4
    exact hr.hr.inj i i' b (by rw [f1]; simp) (by rw [f2]; simp) e3 e4
/-- a row of which nothing is known but that it is there -/
theorem Weak.forget {s : ASt} (id : Nat) {y : Bool} {e : Nat} {cs : List AV} (l : List (Nat × AV)) (hl : ∀ t v, (t, v) ∈ l → s.env t = v) (hid : s.σ id = some (.row y e cs)) (hneM : e ≠ MAPE := by decide) : Weak N m s ⟨envOf l, heapOf [(id, .row y e [])], s.nx⟩ := by
  refine Weak.imps l _ (fun t v h => by rw [hl t v h]; exact Imp.refl v) (fun j o hj => ?_)
  simp only [List.mem_singleton, Prod.mk.injEq] at hj
  obtain ⟨rfl, rfl⟩ := hj
  exact ⟨y, e, cs, [], hid, rfl, .inr ⟨hneM, Nat.zero_le _⟩, fun k x hx => by simp at hx⟩
end Go.Proofs.YtonglhkiobibgaaGreatDoor
namespace Go.Proofs.YtonglhkiobibgaaGreatDoor
set_option maxRecDepth 100000
def ac_26 : AC :=
(.seq (.reg false [⟨some 4, .box 28 (.tmp 0), none, [0], []⟩,
    ⟨some 8, .mv (.const (.slice none 0 0)), none, [], []⟩,
    ⟨some 9, .mv (.const (.int .i64 (0))), none, [], []⟩] [1, 2, 3, 4])
(.seq (.reg false [⟨some 13, .load true 2 (.tmp 4), none, [4], []⟩,
    ⟨some 14, .mv (.tmp 1), none, [1], []⟩,
    ⟨some 15, .call 78 [(.tmp 13), (.tmp 14)], none, [13, 14], []⟩,
    ⟨some 12, .mv (.tmp 15), none, [15], []⟩,
    ⟨some 16, .ext 0 (.tmp 12), none, [12], []⟩,
    ⟨some 17, .ext 1 (.tmp 12), none, [12], []⟩,
    ⟨some 10, .mv (.tmp 16), none, [16], []⟩,
    ⟨some 11, .mv (.tmp 17), none, [17], []⟩] [2, 3, 10, 11])
(.seq (.block 0 (.seq (.reg false [⟨some 19, .mv (.tmp 11), none, [11], []⟩,
    ⟨some 20, .isnil true .nilIface (.tmp 19), none, [19], []⟩,
    ⟨some 18, .mv (.tmp 20), none, [20], []⟩] [2, 3, 10, 11, 18])
(.cond (.tmp 18)
(.seq (.reg false [⟨some 21, .mv (.tmp 11), none, [11], []⟩,
    ⟨some 22, .call 79 [(.tmp 21)], none, [21], []⟩,
    ⟨some 8, .mv (.const (.slice none 0 0)), none, [], []⟩,
    ⟨some 9, .mv (.tmp 22), none, [22], []⟩] [8, 9])
.ret)
(.seq (.reg false [⟨some 24, .mv (.tmp 10), none, [10], []⟩,
    ⟨some 25, .nilc (.tmp 24), none, [24], []⟩,
    ⟨some 26, .foff 1 (.tmp 25), none, [25], []⟩,
    ⟨some 27, .load false 1 (.tmp 26), none, [26], []⟩,
    ⟨some 23, .mv (.tmp 27), none, [27], []⟩] [2, 3, 10, 23])
(.cond (.tmp 23)
(.seq (.reg false [⟨some 8, .mv (.const (.slice none 0 0)), none, [], []⟩,
    ⟨some 9, .mv (.const (.int .i64 (104))), none, [], []⟩] [8, 9])
.ret)
.skip)))))
(.seq (.reg false [⟨some 28, .mv (.tmp 10), none, [10], []⟩,
    ⟨some 29, .nilc (.tmp 28), none, [28], []⟩,
    ⟨some 30, .foff 4 (.tmp 29), none, [29], []⟩,
    ⟨some 31, .load true 2 (.tmp 30), none, [30], []⟩,
    ⟨some 32, .mv (.tmp 2), none, [2], []⟩,
    ⟨some 33, .mv (.tmp 3), none, [3], []⟩,
    ⟨some 34, .call 80 [(.tmp 31), (.tmp 32), (.tmp 33)], none, [31, 32, 33], []⟩,
    ⟨some 35, .ext 0 (.tmp 34), none, [34], []⟩,
    ⟨some 36, .ext 1 (.tmp 34), none, [34], []⟩,
    ⟨some 8, .mv (.tmp 35), none, [35], []⟩,
    ⟨some 9, .mv (.tmp 36), none, [36], []⟩] [8, 9])
.ret))))
theorem ok_26 : FnOk Tryz.prog 26 37 ac_26 [.tmp 8, .tmp 9] := ⟨Tryz.f26, Tryz.func26, by kernel_rfl, by kernel_rfl, by kernel_rfl, by kernel_rfl, by kernel_rfl⟩
def ac_27 : AC :=
(.seq (.reg false [⟨some 4, .mv (.const (.bool false)), none, [], []⟩] [0, 1])
(.seq (.seq (.reg false [⟨some 6, .mv (.tmp 0), none, [0], []⟩,
    ⟨some 7, .len false (.tmp 6), none, [6], []⟩,
    ⟨some 8, .mv (.tmp 1), none, [1], []⟩,
    ⟨some 9, .len false (.tmp 8), none, [8], []⟩,
    ⟨some 10, .bin .neq (.tmp 7) (.tmp 9), none, [7, 9], []⟩] [0, 1, 10])
(.cond (.tmp 10)
(.seq (.reg false [⟨some 4, .mv (.const (.bool false)), none, [], []⟩] [4])
.ret)
.skip))
(.seq (.seq (.reg false [⟨some 5, .mv (.const (.int .i64 (0))), none, [], []⟩] [0, 1, 5])
(.block 0 (.loop (.seq (.seq (.reg false [⟨some 11, .mv (.tmp 5), none, [5], []⟩,
    ⟨some 12, .mv (.tmp 0), none, [0], []⟩,
    ⟨some 13, .len false (.tmp 12), none, [12], []⟩,
    ⟨some 14, .bin .lss (.tmp 11) (.tmp 13), none, [11, 13], []⟩] [0, 1, 5, 14])
(.cond (.tmp 14)
.skip
(.exit 0)))
(.seq (.block 1 (.seq (.reg true [⟨some 17, .mv (.tmp 0), none, [0], []⟩,
    ⟨some 18, .mv (.tmp 5), none, [5], []⟩,
    ⟨some 19, .idx 1 (.tmp 17) (.tmp 18), none, [17, 18], [0, 1]⟩,
    ⟨some 20, .load false 1 (.tmp 19), none, [19], [2, 0, 1]⟩,
    ⟨some 21, .mv (.tmp 1), none, [1], []⟩,
    ⟨some 22, .mv (.tmp 5), none, [5], []⟩,
    ⟨some 23, .idx 1 (.tmp 21) (.tmp 22), none, [21, 22], [4, 5]⟩,
    ⟨some 24, .load false 1 (.tmp 23), none, [23], [6, 4, 5]⟩,
    ⟨some 25, .bin .neq (.tmp 20) (.tmp 24), none, [20, 24], [3, 7, 2, 0, 1, 6, 4, 5]⟩] [0, 1, 5, 25])
(.cond (.tmp 25)
(.seq (.reg false [⟨some 4, .mv (.const (.bool false)), none, [], []⟩] [4])
.ret)
.skip)))
(.reg false [⟨some 15, .mv (.tmp 5), none, [5], []⟩,
    ⟨some 16, .bin .add (.tmp 15) (.const (.int .i64 (1))), none, [15], []⟩,
    ⟨some 5, .mv (.tmp 16), none, [16], []⟩] [0, 1, 5]))))))
(.seq (.reg false [⟨some 4, .mv (.const (.bool true)), none, [], []⟩] [4])
.ret))))
theorem ok_27 : FnOk Tryz.prog 27 26 ac_27 [.tmp 4] := ⟨Tryz.f27, Tryz.func27, by kernel_rfl, by kernel_rfl, by kernel_rfl, by kernel_rfl, by kernel_rfl⟩
def ac_33 : AC :=
(.seq (.reg false [⟨some 0, .mv (.const (.bool false)), none, [], []⟩] [])
(.seq (.reg false [⟨some 7, .call 37 [], none, [], []⟩,
    ⟨some 8, .build [(.int .i64 (0)), (.string (ByteArray.mk #[])), (.string (ByteArray.mk #[])), (.int .i64 (0)), (.int .i64 (0)), (.slice none 0 0)] [(0, 1, (.const (.int .i64 (9)))), (1, 1, (.const (.string (ByteArray.mk #[47, 120])))), (4, 1, (.const (.int .i64 (9))))], none, [], []⟩,
    ⟨some 9, .call 34 [(.tmp 7), (.tmp 8)], none, [7, 8], []⟩,
    ⟨some 6, .mv (.tmp 9), none, [9], []⟩,
    ⟨some 10, .ext 0 (.tmp 6), none, [6], []⟩,
    ⟨some 11, .ext 1 (.tmp 6), none, [6], []⟩,
    ⟨some 12, .ext 2 (.tmp 6), none, [6], []⟩,
    ⟨some 1, .new 28 [(.slice none 0 0), (.int .i64 (0))], none, [], []⟩,
    ⟨some 2, .new 57 [(.int .i64 (0)), (.int .i64 (0)), (.slice none 0 0), (.slice none 0 0)], none, [], []⟩,
    ⟨none, .store 2 (.tmp 1) (.tmp 10), none, [1, 10], []⟩,
    ⟨none, .store 4 (.tmp 2) (.tmp 11), none, [2, 11], []⟩,
    ⟨some 3, .mv (.tmp 12), none, [12], []⟩] [2, 3])
(.seq (.reg false [⟨some 14, .build [(.int .i64 (0)), (.string (ByteArray.mk #[])), (.string (ByteArray.mk #[])), (.int .i64 (0)), (.int .i64 (0)), (.slice none 0 0)] [(0, 1, (.const (.int .i64 (12))))], none, [], []⟩,
    ⟨some 15, .call 43 [(.tmp 14)], none, [14], []⟩,
    ⟨some 13, .mv (.tmp 15), none, [15], []⟩,
    ⟨some 16, .ext 0 (.tmp 13), none, [13], []⟩,
    ⟨some 17, .ext 1 (.tmp 13), none, [13], []⟩,
    ⟨some 4, .mv (.tmp 16), none, [16], []⟩,
    ⟨some 5, .mv (.tmp 17), none, [17], []⟩] [2, 3, 4, 5])
(.seq (.reg false [⟨some 18, .mv (.tmp 3), none, [3], []⟩,
    ⟨some 19, .call 35 [(.tmp 18)], none, [18], []⟩,
    ⟨some 20, .mv (.tmp 5), none, [5], []⟩,
    ⟨some 21, .call 35 [(.tmp 20)], none, [20], []⟩,
    ⟨some 22, .bin .add (.tmp 19) (.tmp 21), none, [19, 21], []⟩,
    ⟨some 23, .bin .eql (.tmp 22) (.const (.int .i64 (0))), none, [22], []⟩,
    ⟨some 24, .mv (.tmp 23), none, [23], []⟩,
    ⟨some 25, .foff 0 (.tmp 2), some (24, true), [2, 24], []⟩,
    ⟨some 26, .load false 1 (.tmp 25), some (24, true), [25, 24], []⟩,
    ⟨some 27, .bin .eql (.tmp 26) (.const (.int .i64 (101))), some (24, true), [26, 24], []⟩,
    ⟨some 28, .pick (.tmp 24) (.tmp 27) (.const (.bool false)), none, [24, 27], []⟩,
    ⟨some 29, .mv (.tmp 28), none, [28], []⟩,
    ⟨some 30, .mv (.tmp 4), some (29, true), [4, 29], []⟩,
    ⟨some 31, .len false (.tmp 30), some (29, true), [30, 29], []⟩,
    ⟨some 32, .bin .gtr (.tmp 31) (.const (.int .i64 (0))), some (29, true), [31, 29], []⟩,
    ⟨some 33, .pick (.tmp 29) (.tmp 32) (.const (.bool false)), none, [29, 32], []⟩,
    ⟨some 0, .mv (.tmp 33), none, [33], []⟩] [0])
.ret))))
theorem ok_33 : FnOk Tryz.prog 33 34 ac_33 [.tmp 0] := ⟨Tryz.f33, Tryz.func33, by kernel_rfl, by kernel_rfl, by kernel_rfl, by kernel_rfl, by kernel_rfl⟩
def ac_34 : AC :=
(.seq (.reg false [⟨some 2, .box 28 (.tmp 0), none, [0], []⟩,
    ⟨some 3, .box 55 (.tmp 1), none, [1], []⟩,
    ⟨some 4, .new 28 [(.slice none 0 0), (.int .i64 (0))], none, [], []⟩,
    ⟨some 5, .new 57 [(.int .i64 (0)), (.int .i64 (0)), (.slice none 0 0), (.slice none 0 0)], none, [], []⟩,
    ⟨some 6, .mv (.const (.int .i64 (0))), none, [], []⟩] [2, 3, 4, 5])
(.seq (.seq (.reg false [⟨some 12, .load true 2 (.tmp 2), none, [2], []⟩,
    ⟨some 13, .call 32 [(.tmp 12)], none, [12], []⟩,
    ⟨some 7, .mv (.tmp 13), none, [13], []⟩] [2, 3, 4, 5, 7])
(.seq (.reg false [⟨some 14, .mv (.tmp 7), none, [7], []⟩,
    ⟨some 15, .bin .neq (.tmp 14) (.const (.int .i64 (0))), none, [14], []⟩] [2, 3, 4, 5, 7, 15])
(.cond (.tmp 15)
(.seq (.reg false [⟨some 16, .build [(.slice none 0 0), (.int .i64 (0))] [], none, [], []⟩,
    ⟨some 17, .build [(.int .i64 (0)), (.int .i64 (0)), (.slice none 0 0), (.slice none 0 0)] [], none, [], []⟩,
    ⟨some 18, .mv (.tmp 7), none, [7], []⟩,
    ⟨none, .store 2 (.tmp 4) (.tmp 16), none, [4, 16], []⟩,
    ⟨none, .store 4 (.tmp 5) (.tmp 17), none, [5, 17], []⟩,
    ⟨some 6, .mv (.tmp 18), none, [18], []⟩] [4, 5, 6])
.ret)
.skip)))
(.seq (.seq (.reg false [⟨some 19, .load true 6 (.tmp 3), none, [3], []⟩,
    ⟨some 20, .call 48 [(.tmp 19)], none, [19], []⟩,
    ⟨some 8, .mv (.tmp 20), none, [20], []⟩] [2, 3, 4, 5, 8])
(.seq (.reg false [⟨some 21, .mv (.tmp 8), none, [8], []⟩,
    ⟨some 22, .bin .neq (.tmp 21) (.const (.int .i64 (0))), none, [21], []⟩] [2, 3, 4, 5, 8, 22])
(.cond (.tmp 22)
(.seq (.reg false [⟨some 23, .build [(.slice none 0 0), (.int .i64 (0))] [], none, [], []⟩,
    ⟨some 24, .build [(.int .i64 (0)), (.int .i64 (0)), (.slice none 0 0), (.slice none 0 0)] [], none, [], []⟩,
    ⟨some 25, .mv (.tmp 8), none, [8], []⟩,
    ⟨none, .store 2 (.tmp 4) (.tmp 23), none, [4, 23], []⟩,
    ⟨none, .store 4 (.tmp 5) (.tmp 24), none, [5, 24], []⟩,
    ⟨some 6, .mv (.tmp 25), none, [25], []⟩] [4, 5, 6])
.ret)
.skip)))
(.seq (.seq (.reg false [⟨some 26, .foff 0 (.tmp 3), none, [3], []⟩,
    ⟨some 27, .load false 1 (.tmp 26), none, [26], []⟩,
    ⟨some 28, .bin .geq (.tmp 27) (.const (.int .i64 (9))), none, [27], []⟩] [2, 3, 4, 5, 28])
(.cond (.tmp 28)
(.seq (.reg true [⟨some 29, .load true 2 (.tmp 2), none, [2], []⟩,
    ⟨some 30, .call 89 [(.tmp 29)], none, [29], [0]⟩,
    ⟨some 31, .load true 2 (.tmp 2), none, [2], []⟩,
    ⟨some 32, .load true 6 (.tmp 3), none, [3], []⟩,
    ⟨some 33, .call 90 [(.tmp 31), (.tmp 32)], none, [31, 32], [2, 3, 1, 0]⟩,
    ⟨none, .store 2 (.tmp 4) (.tmp 30), none, [4, 30], [1, 4, 0, 2, 3]⟩,
    ⟨none, .store 4 (.tmp 5) (.tmp 33), none, [5, 33], [4, 5, 0, 1, 2, 3]⟩,
    ⟨some 6, .mv (.const (.int .i64 (0))), none, [], [6, 0, 1, 2, 3, 4, 5]⟩] [4, 5, 6])
.ret)
.skip))
(.seq (.reg false [⟨some 35, .load true 2 (.tmp 2), none, [2], []⟩,
    ⟨some 36, .load true 6 (.tmp 3), none, [3], []⟩,
    ⟨some 37, .call 91 [(.tmp 35), (.tmp 36)], none, [35, 36], []⟩,
    ⟨some 34, .mv (.tmp 37), none, [37], []⟩,
    ⟨some 38, .ext 0 (.tmp 34), none, [34], []⟩,
    ⟨some 39, .ext 1 (.tmp 34), none, [34], []⟩,
    ⟨some 40, .ext 2 (.tmp 34), none, [34], []⟩,
    ⟨some 9, .new 28 [(.slice none 0 0), (.int .i64 (0))], none, [], []⟩,
    ⟨none, .store 2 (.tmp 9) (.tmp 38), none, [9, 38], []⟩,
    ⟨some 10, .mv (.tmp 39), none, [39], []⟩,
    ⟨some 11, .mv (.tmp 40), none, [40], []⟩] [2, 4, 5, 9, 10, 11])
(.seq (.seq (.reg false [⟨some 41, .mv (.tmp 11), none, [11], []⟩,
    ⟨some 42, .bin .neq (.tmp 41) (.const (.int .i64 (0))), none, [41], []⟩] [2, 4, 5, 9, 10, 11, 42])
(.cond (.tmp 42)
(.seq (.reg false [⟨some 43, .load true 2 (.tmp 2), none, [2], []⟩,
    ⟨some 44, .call 89 [(.tmp 43)], none, [43], []⟩,
    ⟨some 45, .mv (.tmp 11), none, [11], []⟩,
    ⟨some 46, .build [(.int .i64 (0)), (.int .i64 (0)), (.slice none 0 0), (.slice none 0 0)] [(0, 1, (.tmp 45))], none, [45], []⟩,
    ⟨none, .store 2 (.tmp 4) (.tmp 44), none, [4, 44], []⟩,
    ⟨none, .store 4 (.tmp 5) (.tmp 46), none, [5, 46], []⟩,
    ⟨some 6, .mv (.const (.int .i64 (0))), none, [], []⟩] [4, 5, 6])
.ret)
.skip))
(.seq (.reg false [⟨some 47, .load true 2 (.tmp 9), none, [9], []⟩,
    ⟨some 48, .mv (.tmp 10), none, [10], []⟩,
    ⟨some 49, .build [(.int .i64 (0)), (.int .i64 (0)), (.slice none 0 0), (.slice none 0 0)] [(1, 1, (.tmp 48))], none, [48], []⟩,
    ⟨none, .store 2 (.tmp 4) (.tmp 47), none, [4, 47], []⟩,
    ⟨none, .store 4 (.tmp 5) (.tmp 49), none, [5, 49], []⟩,
    ⟨some 6, .mv (.const (.int .i64 (0))), none, [], []⟩] [4, 5, 6])
.ret)))))))
theorem ok_34 : FnOk Tryz.prog 34 50 ac_34 [.cell 4 true 2, .cell 5 true 4, .tmp 6] := ⟨Tryz.f34, Tryz.func34, by kernel_rfl, by kernel_rfl, by kernel_rfl, by kernel_rfl, by kernel_rfl⟩
def ac_35 : AC :=
(.seq (.reg false [⟨some 2, .mv (.const (.int .i64 (0))), none, [], []⟩] [0])
(.seq (.reg false [⟨some 3, .mv (.tmp 0), none, [0], []⟩,
    ⟨some 2, .mv (.tmp 3), none, [3], []⟩] [2])
.ret))
theorem ok_35 : FnOk Tryz.prog 35 4 ac_35 [.tmp 2] := ⟨Tryz.f35, Tryz.func35, by kernel_rfl, by kernel_rfl, by kernel_rfl, by kernel_rfl, by kernel_rfl⟩
def ac_37 : AC :=
(.seq (.reg false [⟨some 0, .new 28 [(.slice none 0 0), (.int .i64 (0))], none, [], []⟩] [0])
(.seq (.reg false [⟨some 1, .build [(.int .i64 (0)), (.bool false), (.int .i64 (0)), (.slice none 0 0), (.int .i64 (0)), (.slice none 0 0)] [(0, 1, (.const (.int .i64 (1)))), (1, 1, (.const (.bool true)))], none, [], []⟩,
    ⟨some 2, .bslice 118 6 1 [(.int .i64 (0)), (.bool false), (.int .i64 (0)), (.slice none 0 0), (.int .i64 (0)), (.slice none 0 0)] [(0, 6, (.tmp 1))], none, [1], []⟩,
    ⟨some 3, .build [(.slice none 0 0), (.int .i64 (0))] [(0, 1, (.tmp 2)), (1, 1, (.const (.int .i64 (2))))], none, [2], []⟩,
    ⟨none, .store 2 (.tmp 0) (.tmp 3), none, [0, 3], []⟩] [0])
.ret))
theorem ok_37 : FnOk Tryz.prog 37 4 ac_37 [.cell 0 true 2] := ⟨Tryz.f37, Tryz.func37, by kernel_rfl, by kernel_rfl, by kernel_rfl, by kernel_rfl, by kernel_rfl⟩
def ac_40 : AC :=
(.seq (.reg false [⟨some 2, .box 57 (.tmp 0), none, [0], []⟩,
    ⟨some 3, .box 57 (.tmp 1), none, [1], []⟩,
    ⟨some 4, .mv (.const (.bool false)), none, [], []⟩] [2, 3])
(.seq (.reg false [⟨some 5, .foff 0 (.tmp 2), none, [2], []⟩,
    ⟨some 6, .load false 1 (.tmp 5), none, [5], []⟩,
    ⟨some 7, .foff 0 (.tmp 3), none, [3], []⟩,
    ⟨some 8, .load false 1 (.tmp 7), none, [7], []⟩,
    ⟨some 9, .bin .eql (.tmp 6) (.tmp 8), none, [6, 8], []⟩,
    ⟨some 10, .mv (.tmp 9), none, [9], []⟩,
    ⟨some 11, .foff 1 (.tmp 2), some (10, true), [2, 10], []⟩,
    ⟨some 12, .load false 1 (.tmp 11), some (10, true), [11, 10], []⟩,
    ⟨some 13, .foff 1 (.tmp 3), some (10, true), [3, 10], []⟩,
    ⟨some 14, .load false 1 (.tmp 13), some (10, true), [13, 10], []⟩,
    ⟨some 15, .bin .eql (.tmp 12) (.tmp 14), some (10, true), [12, 14, 10], []⟩,
    ⟨some 16, .pick (.tmp 10) (.tmp 15) (.const (.bool false)), none, [10, 15], []⟩,
    ⟨some 17, .mv (.tmp 16), none, [16], []⟩,
    ⟨some 18, .foff 2 (.tmp 2), some (17, true), [2, 17], []⟩,
    ⟨some 19, .load false 1 (.tmp 18), some (17, true), [18, 17], []⟩,
    ⟨some 20, .foff 2 (.tmp 3), some (17, true), [3, 17], []⟩,
    ⟨some 21, .load false 1 (.tmp 20), some (17, true), [20, 17], []⟩,
    ⟨some 22, .call 27 [(.tmp 19), (.tmp 21)], some (17, true), [19, 21, 17], []⟩,
    ⟨some 23, .pick (.tmp 17) (.tmp 22) (.const (.bool false)), none, [17, 22], []⟩,
    ⟨some 24, .mv (.tmp 23), none, [23], []⟩,
    ⟨some 25, .foff 3 (.tmp 2), some (24, true), [2, 24], []⟩,
    ⟨some 26, .load false 1 (.tmp 25), some (24, true), [25, 24], []⟩,
    ⟨some 27, .foff 3 (.tmp 3), some (24, true), [3, 24], []⟩,
    ⟨some 28, .load false 1 (.tmp 27), some (24, true), [27, 24], []⟩,
    ⟨some 29, .call 95 [(.tmp 26), (.tmp 28)], some (24, true), [26, 28, 24], []⟩,
    ⟨some 30, .pick (.tmp 24) (.tmp 29) (.const (.bool false)), none, [24, 29], []⟩,
    ⟨some 4, .mv (.tmp 30), none, [30], []⟩] [4])
.ret))
theorem ok_40 : FnOk Tryz.prog 40 31 ac_40 [.tmp 4] := ⟨Tryz.f40, Tryz.func40, by kernel_rfl, by kernel_rfl, by kernel_rfl, by kernel_rfl, by kernel_rfl⟩
def ac_43 : AC :=
(.seq (.reg false [⟨some 1, .box 55 (.tmp 0), none, [0], []⟩,
    ⟨some 2, .mv (.const (.slice none 0 0)), none, [], []⟩,
    ⟨some 3, .mv (.const (.int .i64 (0))), none, [], []⟩] [1])
(.seq (.seq (.reg false [⟨some 5, .load true 6 (.tmp 1), none, [1], []⟩,
    ⟨some 6, .call 48 [(.tmp 5)], none, [5], []⟩,
    ⟨some 4, .mv (.tmp 6), none, [6], []⟩] [1, 4])
(.seq (.reg false [⟨some 7, .mv (.tmp 4), none, [4], []⟩,
    ⟨some 8, .bin .neq (.tmp 7) (.const (.int .i64 (0))), none, [7], []⟩] [1, 4, 8])
(.cond (.tmp 8)
(.seq (.reg false [⟨some 9, .mv (.tmp 4), none, [4], []⟩,
    ⟨some 2, .mv (.const (.slice none 0 0)), none, [], []⟩,
    ⟨some 3, .mv (.tmp 9), none, [9], []⟩] [2, 3])
.ret)
.skip)))
(.seq (.reg false [⟨some 10, .foff 0 (.tmp 1), none, [1], []⟩,
    ⟨some 11, .load false 1 (.tmp 10), none, [10], []⟩,
    ⟨some 12, .foff 3 (.tmp 1), none, [1], []⟩,
    ⟨some 13, .load false 1 (.tmp 12), none, [12], []⟩,
    ⟨some 14, .foff 4 (.tmp 1), none, [1], []⟩,
    ⟨some 15, .load false 1 (.tmp 14), none, [14], []⟩,
    ⟨some 16, .bslice 3 1 2 [(.int .i64 (0)), (.int .i64 (0))] [(0, 1, (.tmp 13)), (1, 1, (.tmp 15))], none, [13, 15], []⟩,
    ⟨some 17, .foff 1 (.tmp 1), none, [1], []⟩,
    ⟨some 18, .load false 1 (.tmp 17), none, [17], []⟩,
    ⟨some 19, .s2b (.tmp 18), none, [18], []⟩,
    ⟨some 20, .foff 2 (.tmp 1), none, [1], []⟩,
    ⟨some 21, .load false 1 (.tmp 20), none, [20], []⟩,
    ⟨some 22, .s2b (.tmp 21), none, [21], []⟩,
    ⟨some 23, .foff 5 (.tmp 1), none, [1], []⟩,
    ⟨some 24, .load false 1 (.tmp 23), none, [23], []⟩,
    ⟨some 25, .bslice 37 1 3 [(.slice none 0 0), (.slice none 0 0), (.slice none 0 0)] [(0, 1, (.tmp 19)), (1, 1, (.tmp 22)), (2, 1, (.tmp 24))], none, [19, 22, 24], []⟩,
    ⟨some 26, .build [(.int .i64 (0)), (.slice none 0 0), (.slice none 0 0)] [(0, 1, (.tmp 11)), (1, 1, (.tmp 16)), (2, 1, (.tmp 25))], none, [11, 16, 25], []⟩,
    ⟨some 27, .call 96 [(.tmp 26)], none, [26], []⟩,
    ⟨some 28, .ext 0 (.tmp 27), none, [27], []⟩,
    ⟨some 29, .ext 1 (.tmp 27), none, [27], []⟩,
    ⟨some 2, .mv (.tmp 28), none, [28], []⟩,
    ⟨some 3, .mv (.tmp 29), none, [29], []⟩] [2, 3])
.ret)))
theorem ok_43 : FnOk Tryz.prog 43 30 ac_43 [.tmp 2, .tmp 3] := ⟨Tryz.f43, Tryz.func43, by kernel_rfl, by kernel_rfl, by kernel_rfl, by kernel_rfl, by kernel_rfl⟩
def ac_45 : AC :=
(.seq (.reg false [⟨some 2, .new 55 [(.int .i64 (0)), (.string (ByteArray.mk #[])), (.string (ByteArray.mk #[])), (.int .i64 (0)), (.int .i64 (0)), (.slice none 0 0)], none, [], []⟩,
    ⟨some 3, .mv (.const (.int .i64 (0))), none, [], []⟩] [0, 2])
(.seq (.reg false [⟨some 9, .mv (.tmp 0), none, [0], []⟩,
    ⟨some 10, .call 98 [(.tmp 9)], none, [9], []⟩,
    ⟨some 8, .mv (.tmp 10), none, [10], []⟩,
    ⟨some 11, .ext 0 (.tmp 8), none, [8], []⟩,
    ⟨some 12, .ext 1 (.tmp 8), none, [8], []⟩,
    ⟨some 4, .new 154 [(.int .i64 (0)), (.slice none 0 0), (.slice none 0 0)], none, [], []⟩,
    ⟨none, .store 3 (.tmp 4) (.tmp 11), none, [4, 11], []⟩,
    ⟨some 5, .mv (.tmp 12), none, [12], []⟩] [2, 4, 5])
(.seq (.seq (.reg false [⟨some 13, .mv (.tmp 5), none, [5], []⟩,
    ⟨some 14, .bin .neq (.tmp 13) (.const (.int .i64 (0))), none, [13], []⟩] [2, 4, 5, 14])
(.cond (.tmp 14)
(.seq (.reg false [⟨some 15, .build [(.int .i64 (0)), (.string (ByteArray.mk #[])), (.string (ByteArray.mk #[])), (.int .i64 (0)), (.int .i64 (0)), (.slice none 0 0)] [], none, [], []⟩,
    ⟨some 16, .mv (.tmp 5), none, [5], []⟩,
    ⟨none, .store 6 (.tmp 2) (.tmp 15), none, [2, 15], []⟩,
    ⟨some 3, .mv (.tmp 16), none, [16], []⟩] [2, 3])
.ret)
.skip))
(.seq (.seq (.reg false [⟨some 17, .foff 1 (.tmp 4), none, [4], []⟩,
    ⟨some 18, .load false 1 (.tmp 17), none, [17], []⟩,
    ⟨some 19, .len false (.tmp 18), none, [18], []⟩,
    ⟨some 20, .bin .neq (.tmp 19) (.const (.int .i64 (2))), none, [19], []⟩,
    ⟨some 21, .mv (.tmp 20), none, [20], []⟩,
    ⟨some 22, .foff 2 (.tmp 4), some (21, false), [4, 21], []⟩,
    ⟨some 23, .load false 1 (.tmp 22), some (21, false), [22, 21], []⟩,
    ⟨some 24, .len false (.tmp 23), some (21, false), [23, 21], []⟩,
    ⟨some 25, .bin .neq (.tmp 24) (.const (.int .i64 (3))), some (21, false), [24, 21], []⟩,
    ⟨some 26, .pick (.tmp 21) (.const (.bool true)) (.tmp 25), none, [21, 25], []⟩] [2, 4, 26])
(.cond (.tmp 26)
(.seq (.reg false [⟨some 27, .build [(.int .i64 (0)), (.string (ByteArray.mk #[])), (.string (ByteArray.mk #[])), (.int .i64 (0)), (.int .i64 (0)), (.slice none 0 0)] [], none, [], []⟩,
    ⟨none, .store 6 (.tmp 2) (.tmp 27), none, [2, 27], []⟩,
    ⟨some 3, .mv (.const (.int .i64 (3))), none, [], []⟩] [2, 3])
.ret)
.skip))
(.seq (.reg true [⟨some 28, .foff 0 (.tmp 4), none, [4], []⟩,
    ⟨some 29, .load false 1 (.tmp 28), none, [28], [0]⟩,
    ⟨some 30, .foff 2 (.tmp 4), none, [4], []⟩,
    ⟨some 31, .load false 1 (.tmp 30), none, [30], [2]⟩,
    ⟨some 32, .idx 1 (.tmp 31) (.const (.int .i64 (0))), none, [31], [3, 2]⟩,
    ⟨some 33, .load false 1 (.tmp 32), none, [32], [4, 3, 2]⟩,
    ⟨some 34, .b2s (.tmp 33), none, [33], [5, 4, 3, 2]⟩,
    ⟨some 35, .foff 2 (.tmp 4), none, [4], []⟩,
    ⟨some 36, .load false 1 (.tmp 35), none, [35], [7]⟩,
    ⟨some 37, .idx 1 (.tmp 36) (.const (.int .i64 (1))), none, [36], [8, 7]⟩,
    ⟨some 38, .load false 1 (.tmp 37), none, [37], [9, 8, 7]⟩,
    ⟨some 39, .b2s (.tmp 38), none, [38], [10, 9, 8, 7]⟩,
    ⟨some 40, .foff 1 (.tmp 4), none, [4], []⟩,
    ⟨some 41, .load false 1 (.tmp 40), none, [40], [12]⟩,
    ⟨some 42, .idx 1 (.tmp 41) (.const (.int .i64 (0))), none, [41], [13, 12]⟩,
    ⟨some 43, .load false 1 (.tmp 42), none, [42], [14, 13, 12]⟩,
    ⟨some 44, .foff 1 (.tmp 4), none, [4], []⟩,
    ⟨some 45, .load false 1 (.tmp 44), none, [44], [16]⟩,
    ⟨some 46, .idx 1 (.tmp 45) (.const (.int .i64 (1))), none, [45], [17, 16]⟩,
    ⟨some 47, .load false 1 (.tmp 46), none, [46], [18, 17, 16]⟩,
    ⟨some 48, .foff 2 (.tmp 4), none, [4], []⟩,
    ⟨some 49, .load false 1 (.tmp 48), none, [48], [20]⟩,
    ⟨some 50, .idx 1 (.tmp 49) (.const (.int .i64 (2))), none, [49], [21, 20]⟩,
    ⟨some 51, .load false 1 (.tmp 50), none, [50], [22, 21, 20]⟩,
    ⟨some 52, .build [(.int .i64 (0)), (.string (ByteArray.mk #[])), (.string (ByteArray.mk #[])), (.int .i64 (0)), (.int .i64 (0)), (.slice none 0 0)] [(0, 1, (.tmp 29)), (1, 1, (.tmp 34)), (2, 1, (.tmp 39)), (3, 1, (.tmp 43)), (4, 1, (.tmp 47)), (5, 1, (.tmp 51))], none, [29, 34, 39, 43, 47, 51], [1, 6, 11, 15, 19, 23, 0, 5, 4, 3, 2, 10, 9, 8, 7, 14, 13, 12, 18, 17, 16, 22, 21, 20]⟩,
    ⟨some 6, .new 55 [(.int .i64 (0)), (.string (ByteArray.mk #[])), (.string (ByteArray.mk #[])), (.int .i64 (0)), (.int .i64 (0)), (.slice none 0 0)], none, [], []⟩,
    ⟨none, .store 6 (.tmp 6) (.tmp 52), none, [6, 52], [25, 24, 0, 1, 2, 3, 4, 5, 6, 7, 8, 9, 10, 11, 12, 13, 14, 15, 16, 17, 18, 19, 20, 21, 22, 23]⟩] [2, 6])
(.seq (.seq (.reg false [⟨some 53, .load true 6 (.tmp 6), none, [6], []⟩,
    ⟨some 54, .call 48 [(.tmp 53)], none, [53], []⟩,
    ⟨some 7, .mv (.tmp 54), none, [54], []⟩] [2, 6, 7])
(.seq (.reg false [⟨some 55, .mv (.tmp 7), none, [7], []⟩,
    ⟨some 56, .bin .neq (.tmp 55) (.const (.int .i64 (0))), none, [55], []⟩] [2, 6, 7, 56])
(.cond (.tmp 56)
(.seq (.reg false [⟨some 57, .build [(.int .i64 (0)), (.string (ByteArray.mk #[])), (.string (ByteArray.mk #[])), (.int .i64 (0)), (.int .i64 (0)), (.slice none 0 0)] [], none, [], []⟩,
    ⟨some 58, .mv (.tmp 7), none, [7], []⟩,
    ⟨none, .store 6 (.tmp 2) (.tmp 57), none, [2, 57], []⟩,
    ⟨some 3, .mv (.tmp 58), none, [58], []⟩] [2, 3])
.ret)
.skip)))
(.seq (.reg false [⟨some 59, .load true 6 (.tmp 6), none, [6], []⟩,
    ⟨none, .store 6 (.tmp 2) (.tmp 59), none, [2, 59], []⟩,
    ⟨some 3, .mv (.const (.int .i64 (0))), none, [], []⟩] [2, 3])
.ret)))))))
theorem ok_45 : FnOk Tryz.prog 45 60 ac_45 [.cell 2 true 6, .tmp 3] := ⟨Tryz.f45, Tryz.func45, by kernel_rfl, by kernel_rfl, by kernel_rfl, by kernel_rfl, by kernel_rfl⟩
def ac_47 : AC :=
(.seq (.reg false [⟨some 2, .box 55 (.tmp 0), none, [0], []⟩,
    ⟨some 3, .box 55 (.tmp 1), none, [1], []⟩,
    ⟨some 4, .mv (.const (.bool false)), none, [], []⟩] [2, 3])
(.seq (.reg false [⟨some 5, .foff 0 (.tmp 2), none, [2], []⟩,
    ⟨some 6, .load false 1 (.tmp 5), none, [5], []⟩,
    ⟨some 7, .foff 0 (.tmp 3), none, [3], []⟩,
    ⟨some 8, .load false 1 (.tmp 7), none, [7], []⟩,
    ⟨some 9, .bin .eql (.tmp 6) (.tmp 8), none, [6, 8], []⟩,
    ⟨some 10, .mv (.tmp 9), none, [9], []⟩,
    ⟨some 11, .foff 1 (.tmp 2), some (10, true), [2, 10], []⟩,
    ⟨some 12, .load false 1 (.tmp 11), some (10, true), [11, 10], []⟩,
    ⟨some 13, .foff 1 (.tmp 3), some (10, true), [3, 10], []⟩,
    ⟨some 14, .load false 1 (.tmp 13), some (10, true), [13, 10], []⟩,
    ⟨some 15, .bin .eql (.tmp 12) (.tmp 14), some (10, true), [12, 14, 10], []⟩,
    ⟨some 16, .pick (.tmp 10) (.tmp 15) (.const (.bool false)), none, [10, 15], []⟩,
    ⟨some 17, .mv (.tmp 16), none, [16], []⟩,
    ⟨some 18, .foff 2 (.tmp 2), some (17, true), [2, 17], []⟩,
    ⟨some 19, .load false 1 (.tmp 18), some (17, true), [18, 17], []⟩,
    ⟨some 20, .foff 2 (.tmp 3), some (17, true), [3, 17], []⟩,
    ⟨some 21, .load false 1 (.tmp 20), some (17, true), [20, 17], []⟩,
    ⟨some 22, .bin .eql (.tmp 19) (.tmp 21), some (17, true), [19, 21, 17], []⟩,
    ⟨some 23, .pick (.tmp 17) (.tmp 22) (.const (.bool false)), none, [17, 22], []⟩,
    ⟨some 24, .mv (.tmp 23), none, [23], []⟩,
    ⟨some 25, .foff 3 (.tmp 2), some (24, true), [2, 24], []⟩,
    ⟨some 26, .load false 1 (.tmp 25), some (24, true), [25, 24], []⟩,
    ⟨some 27, .foff 3 (.tmp 3), some (24, true), [3, 24], []⟩,
    ⟨some 28, .load false 1 (.tmp 27), some (24, true), [27, 24], []⟩,
    ⟨some 29, .bin .eql (.tmp 26) (.tmp 28), some (24, true), [26, 28, 24], []⟩,
    ⟨some 30, .pick (.tmp 24) (.tmp 29) (.const (.bool false)), none, [24, 29], []⟩,
    ⟨some 31, .mv (.tmp 30), none, [30], []⟩,
    ⟨some 32, .foff 4 (.tmp 2), some (31, true), [2, 31], []⟩,
    ⟨some 33, .load false 1 (.tmp 32), some (31, true), [32, 31], []⟩,
    ⟨some 34, .foff 4 (.tmp 3), some (31, true), [3, 31], []⟩,
    ⟨some 35, .load false 1 (.tmp 34), some (31, true), [34, 31], []⟩,
    ⟨some 36, .bin .eql (.tmp 33) (.tmp 35), some (31, true), [33, 35, 31], []⟩,
    ⟨some 37, .pick (.tmp 31) (.tmp 36) (.const (.bool false)), none, [31, 36], []⟩,
    ⟨some 38, .mv (.tmp 37), none, [37], []⟩,
    ⟨some 39, .foff 5 (.tmp 2), some (38, true), [2, 38], []⟩,
    ⟨some 40, .load false 1 (.tmp 39), some (38, true), [39, 38], []⟩,
    ⟨some 41, .foff 5 (.tmp 3), some (38, true), [3, 38], []⟩,
    ⟨some 42, .load false 1 (.tmp 41), some (38, true), [41, 38], []⟩,
    ⟨some 43, .call 27 [(.tmp 40), (.tmp 42)], some (38, true), [40, 42, 38], []⟩,
    ⟨some 44, .pick (.tmp 38) (.tmp 43) (.const (.bool false)), none, [38, 43], []⟩,
    ⟨some 4, .mv (.tmp 44), none, [44], []⟩] [4])
.ret))
theorem ok_47 : FnOk Tryz.prog 47 45 ac_47 [.tmp 4] := ⟨Tryz.f47, Tryz.func47, by kernel_rfl, by kernel_rfl, by kernel_rfl, by kernel_rfl, by kernel_rfl⟩
def ac_48 : AC :=
(.seq (.reg false [⟨some 1, .box 55 (.tmp 0), none, [0], []⟩,
    ⟨some 2, .mv (.const (.int .i64 (0))), none, [], []⟩] [1])
(.seq (.seq (.reg false [⟨some 3, .foff 0 (.tmp 1), none, [1], []⟩,
    ⟨some 4, .load false 1 (.tmp 3), none, [3], []⟩,
    ⟨some 5, .bin .lss (.tmp 4) (.const (.int .i64 (1))), none, [4], []⟩,
    ⟨some 6, .mv (.tmp 5), none, [5], []⟩,
    ⟨some 7, .foff 0 (.tmp 1), some (6, false), [1, 6], []⟩,
    ⟨some 8, .load false 1 (.tmp 7), some (6, false), [7, 6], []⟩,
    ⟨some 9, .bin .gtr (.tmp 8) (.const (.int .i64 (12))), some (6, false), [8, 6], []⟩,
    ⟨some 10, .pick (.tmp 6) (.const (.bool true)) (.tmp 9), none, [6, 9], []⟩] [1, 10])
(.cond (.tmp 10)
(.seq (.reg false [⟨some 2, .mv (.const (.int .i64 (22))), none, [], []⟩] [2])
.ret)
.skip))
(.seq (.seq (.reg false [⟨some 11, .foff 1 (.tmp 1), none, [1], []⟩,
    ⟨some 12, .load false 1 (.tmp 11), none, [11], []⟩,
    ⟨some 13, .len true (.tmp 12), none, [12], []⟩,
    ⟨some 14, .foff 2 (.tmp 1), none, [1], []⟩,
    ⟨some 15, .load false 1 (.tmp 14), none, [14], []⟩,
    ⟨some 16, .len true (.tmp 15), none, [15], []⟩,
    ⟨some 17, .mm true (.tmp 13) (.tmp 16), none, [13, 16], []⟩,
    ⟨some 18, .bin .gtr (.tmp 17) (.const (.int .i64 (255))), none, [17], []⟩,
    ⟨some 19, .mv (.tmp 18), none, [18], []⟩,
    ⟨some 20, .foff 5 (.tmp 1), some (19, false), [1, 19], []⟩,
    ⟨some 21, .load false 1 (.tmp 20), some (19, false), [20, 19], []⟩,
    ⟨some 22, .len false (.tmp 21), some (19, false), [21, 19], []⟩,
    ⟨some 23, .bin .gtr (.tmp 22) (.const (.int .i64 (4096))), some (19, false), [22, 19], []⟩,
    ⟨some 24, .pick (.tmp 19) (.const (.bool true)) (.tmp 23), none, [19, 23], []⟩] [24])
(.cond (.tmp 24)
(.seq (.reg false [⟨some 2, .mv (.const (.int .i64 (5))), none, [], []⟩] [2])
.ret)
.skip))
(.seq (.reg false [⟨some 2, .mv (.const (.int .i64 (0))), none, [], []⟩] [2])
.ret))))
theorem ok_48 : FnOk Tryz.prog 48 25 ac_48 [.tmp 2] := ⟨Tryz.f48, Tryz.func48, by kernel_rfl, by kernel_rfl, by kernel_rfl, by kernel_rfl, by kernel_rfl⟩
end Go.Proofs.YtonglhkiobibgaaGreatDoor
namespace Go.Proofs.YtonglhkiobibgaaGreatDoor
set_option maxRecDepth 100000
def ac_51 : AC :=
(.seq (.reg false [⟨some 1, .box 57 (.tmp 0), none, [0], []⟩,
    ⟨some 2, .mv (.const (.slice none 0 0)), none, [], []⟩,
    ⟨some 3, .mv (.const (.int .i64 (0))), none, [], []⟩] [1])
(.seq (.block 0 (.seq (.reg false [⟨some 8, .foff 0 (.tmp 1), none, [1], []⟩,
    ⟨some 9, .load false 1 (.tmp 8), none, [8], []⟩,
    ⟨some 10, .bin .lss (.tmp 9) (.const (.int .i64 (0))), none, [9], []⟩,
    ⟨some 11, .mv (.tmp 10), none, [10], []⟩,
    ⟨some 12, .foff 0 (.tmp 1), some (11, false), [1, 11], []⟩,
    ⟨some 13, .load false 1 (.tmp 12), some (11, false), [12, 11], []⟩,
    ⟨some 14, .bin .gtr (.tmp 13) (.const (.int .i64 (65536))), some (11, false), [13, 11], []⟩,
    ⟨some 15, .pick (.tmp 11) (.const (.bool true)) (.tmp 14), none, [11, 14], []⟩,
    ⟨some 16, .mv (.tmp 15), none, [15], []⟩,
    ⟨some 17, .foff 1 (.tmp 1), some (16, false), [1, 16], []⟩,
    ⟨some 18, .load false 1 (.tmp 17), some (16, false), [17, 16], []⟩,
    ⟨some 19, .bin .lss (.tmp 18) (.const (.int .i64 (0))), some (16, false), [18, 16], []⟩,
    ⟨some 20, .pick (.tmp 16) (.const (.bool true)) (.tmp 19), none, [16, 19], []⟩,
    ⟨some 21, .mv (.tmp 20), none, [20], []⟩,
    ⟨some 22, .foff 1 (.tmp 1), some (21, false), [1, 21], []⟩,
    ⟨some 23, .load false 1 (.tmp 22), some (21, false), [22, 21], []⟩,
    ⟨some 24, .bin .gtr (.tmp 23) (.const (.int .i64 (2147483647))), some (21, false), [23, 21], []⟩,
    ⟨some 25, .pick (.tmp 21) (.const (.bool true)) (.tmp 24), none, [21, 24], []⟩,
    ⟨some 7, .mv (.tmp 25), none, [25], []⟩] [1, 7])
(.cond (.tmp 7)
(.seq (.reg false [⟨some 2, .mv (.const (.slice none 0 0)), none, [], []⟩,
    ⟨some 3, .mv (.const (.int .i64 (4))), none, [], []⟩] [2, 3])
.ret)
(.seq (.reg false [⟨some 27, .foff 2 (.tmp 1), none, [1], []⟩,
    ⟨some 28, .load false 1 (.tmp 27), none, [27], []⟩,
    ⟨some 29, .len false (.tmp 28), none, [28], []⟩,
    ⟨some 30, .bin .gtr (.tmp 29) (.const (.int .i64 (4096))), none, [29], []⟩,
    ⟨some 26, .mv (.tmp 30), none, [30], []⟩] [1, 26])
(.cond (.tmp 26)
(.seq (.reg false [⟨some 2, .mv (.const (.slice none 0 0)), none, [], []⟩,
    ⟨some 3, .mv (.const (.int .i64 (5))), none, [], []⟩] [2, 3])
.ret)
(.seq (.reg false [⟨some 32, .foff 3 (.tmp 1), none, [1], []⟩,
    ⟨some 33, .load false 1 (.tmp 32), none, [32], []⟩,
    ⟨some 34, .len false (.tmp 33), none, [33], []⟩,
    ⟨some 35, .bin .gtr (.tmp 34) (.const (.int .i64 (64))), none, [34], []⟩,
    ⟨some 31, .mv (.tmp 35), none, [35], []⟩] [1, 31])
(.cond (.tmp 31)
(.seq (.reg false [⟨some 2, .mv (.const (.slice none 0 0)), none, [], []⟩,
    ⟨some 3, .mv (.const (.int .i64 (3))), none, [], []⟩] [2, 3])
.ret)
(.seq (.reg false [⟨some 37, .foff 3 (.tmp 1), none, [1], []⟩,
    ⟨some 38, .load false 1 (.tmp 37), none, [37], []⟩,
    ⟨some 39, .call 100 [(.tmp 38), (.func 101)], none, [38], []⟩,
    ⟨some 36, .mv (.tmp 39), none, [39], []⟩] [1, 36])
(.cond (.tmp 36)
(.seq (.reg false [⟨some 2, .mv (.const (.slice none 0 0)), none, [], []⟩,
    ⟨some 3, .mv (.const (.int .i64 (5))), none, [], []⟩] [2, 3])
.ret)
.skip)))))))))
(.seq (.reg false [⟨some 40, .foff 0 (.tmp 1), none, [1], []⟩,
    ⟨some 41, .load false 1 (.tmp 40), none, [40], []⟩,
    ⟨some 42, .foff 1 (.tmp 1), none, [1], []⟩,
    ⟨some 43, .load false 1 (.tmp 42), none, [42], []⟩,
    ⟨some 44, .bslice 3 1 2 [(.int .i64 (0)), (.int .i64 (0))] [(0, 1, (.tmp 41)), (1, 1, (.tmp 43))], none, [41, 43], []⟩,
    ⟨some 45, .foff 2 (.tmp 1), none, [1], []⟩,
    ⟨some 46, .load false 1 (.tmp 45), none, [45], []⟩,
    ⟨some 47, .bslice 37 1 1 [(.slice none 0 0)] [(0, 1, (.tmp 46))], none, [46], []⟩,
    ⟨some 48, .build [(.int .i64 (0)), (.slice none 0 0), (.slice none 0 0)] [(1, 1, (.tmp 44)), (2, 1, (.tmp 47))], none, [44, 47], []⟩,
    ⟨some 4, .new 154 [(.int .i64 (0)), (.slice none 0 0), (.slice none 0 0)], none, [], []⟩,
    ⟨none, .store 3 (.tmp 4) (.tmp 48), none, [4, 48], []⟩] [1, 4])
(.seq (.seq (.reg false [⟨some 49, .foff 3 (.tmp 1), none, [1], []⟩,
    ⟨some 50, .load false 1 (.tmp 49), none, [49], []⟩,
    ⟨some 51, .len false (.tmp 50), none, [50], []⟩,
    ⟨some 52, .mv (.const (.int .i64 (0))), none, [], []⟩] [4, 50, 51, 52])
(.block 1 (.loop (.seq (.reg false [⟨some 53, .bin .lss (.tmp 52) (.tmp 51), none, [52, 51], []⟩] [4, 50, 51, 52, 53])
(.seq (.cond (.tmp 53)
.skip
(.exit 1))
(.seq (.block 2 (.seq (.reg false [⟨some 54, .idx 1 (.tmp 50) (.tmp 52), none, [50, 52], []⟩,
    ⟨some 55, .load false 1 (.tmp 54), none, [54], []⟩,
    ⟨some 6, .mv (.tmp 55), none, [55], []⟩] [4, 6, 50, 51, 52])
(.reg false [⟨some 56, .foff 2 (.tmp 4), none, [4], []⟩,
    ⟨some 57, .load false 1 (.tmp 56), none, [56], []⟩,
    ⟨some 58, .mv (.tmp 6), none, [6], []⟩,
    ⟨some 59, .s2b (.tmp 58), none, [58], []⟩,
    ⟨some 60, .bslice 37 1 1 [(.slice none 0 0)] [(0, 1, (.tmp 59))], none, [59], []⟩,
    ⟨some 61, .append 37 1 24 (.tmp 57) (.tmp 60), none, [57, 60], []⟩,
    ⟨some 62, .foff 2 (.tmp 4), none, [4], []⟩,
    ⟨none, .store 1 (.tmp 62) (.tmp 61), none, [62, 61], []⟩] [4, 50, 51, 52])))
(.reg false [⟨some 63, .bin .add (.tmp 52) (.const (.int .i64 (1))), none, [52], []⟩,
    ⟨some 52, .mv (.tmp 63), none, [63], []⟩] [4, 50, 51, 52])))))))
(.seq (.reg false [⟨some 64, .load true 3 (.tmp 4), none, [4], []⟩,
    ⟨some 65, .call 96 [(.tmp 64)], none, [64], []⟩,
    ⟨some 66, .ext 0 (.tmp 65), none, [65], []⟩,
    ⟨some 67, .ext 1 (.tmp 65), none, [65], []⟩,
    ⟨some 2, .mv (.tmp 66), none, [66], []⟩,
    ⟨some 3, .mv (.tmp 67), none, [67], []⟩] [2, 3])
.ret)))))
theorem ok_51 : FnOk Tryz.prog 51 68 ac_51 [.tmp 2, .tmp 3] := ⟨Tryz.f51, Tryz.func51, by kernel_rfl, by kernel_rfl, by kernel_rfl, by kernel_rfl, by kernel_rfl⟩
def ac_53 : AC :=
(.seq (.reg false [⟨some 2, .new 57 [(.int .i64 (0)), (.int .i64 (0)), (.slice none 0 0), (.slice none 0 0)], none, [], []⟩,
    ⟨some 3, .mv (.const (.int .i64 (0))), none, [], []⟩] [0, 2])
(.seq (.reg false [⟨some 12, .mv (.tmp 0), none, [0], []⟩,
    ⟨some 13, .call 98 [(.tmp 12)], none, [12], []⟩,
    ⟨some 11, .mv (.tmp 13), none, [13], []⟩,
    ⟨some 14, .ext 0 (.tmp 11), none, [11], []⟩,
    ⟨some 15, .ext 1 (.tmp 11), none, [11], []⟩,
    ⟨some 4, .new 154 [(.int .i64 (0)), (.slice none 0 0), (.slice none 0 0)], none, [], []⟩,
    ⟨none, .store 3 (.tmp 4) (.tmp 14), none, [4, 14], []⟩,
    ⟨some 5, .mv (.tmp 15), none, [15], []⟩] [2, 4, 5])
(.seq (.block 0 (.seq (.reg false [⟨some 17, .mv (.tmp 5), none, [5], []⟩,
    ⟨some 18, .bin .neq (.tmp 17) (.const (.int .i64 (0))), none, [17], []⟩,
    ⟨some 16, .mv (.tmp 18), none, [18], []⟩] [2, 4, 5, 16])
(.cond (.tmp 16)
(.seq (.reg false [⟨some 19, .build [(.int .i64 (0)), (.int .i64 (0)), (.slice none 0 0), (.slice none 0 0)] [], none, [], []⟩,
    ⟨some 20, .mv (.tmp 5), none, [5], []⟩,
    ⟨none, .store 4 (.tmp 2) (.tmp 19), none, [2, 19], []⟩,
    ⟨some 3, .mv (.tmp 20), none, [20], []⟩] [2, 3])
.ret)
(.seq (.reg false [⟨some 22, .foff 0 (.tmp 4), none, [4], []⟩,
    ⟨some 23, .load false 1 (.tmp 22), none, [22], []⟩,
    ⟨some 24, .bin .neq (.tmp 23) (.const (.int .i64 (0))), none, [23], []⟩,
    ⟨some 21, .mv (.tmp 24), none, [24], []⟩] [2, 4, 21])
(.cond (.tmp 21)
(.seq (.reg false [⟨some 25, .build [(.int .i64 (0)), (.int .i64 (0)), (.slice none 0 0), (.slice none 0 0)] [], none, [], []⟩,
    ⟨none, .store 4 (.tmp 2) (.tmp 25), none, [2, 25], []⟩,
    ⟨some 3, .mv (.const (.int .i64 (22))), none, [], []⟩] [2, 3])
.ret)
(.seq (.reg false [⟨some 27, .foff 1 (.tmp 4), none, [4], []⟩,
    ⟨some 28, .load false 1 (.tmp 27), none, [27], []⟩,
    ⟨some 29, .len false (.tmp 28), none, [28], []⟩,
    ⟨some 30, .bin .neq (.tmp 29) (.const (.int .i64 (2))), none, [29], []⟩,
    ⟨some 31, .mv (.tmp 30), none, [30], []⟩,
    ⟨some 32, .foff 2 (.tmp 4), some (31, false), [4, 31], []⟩,
    ⟨some 33, .load false 1 (.tmp 32), some (31, false), [32, 31], []⟩,
    ⟨some 34, .len false (.tmp 33), some (31, false), [33, 31], []⟩,
    ⟨some 35, .bin .eql (.tmp 34) (.const (.int .i64 (0))), some (31, false), [34, 31], []⟩,
    ⟨some 36, .pick (.tmp 31) (.const (.bool true)) (.tmp 35), none, [31, 35], []⟩,
    ⟨some 26, .mv (.tmp 36), none, [36], []⟩] [2, 4, 26])
(.cond (.tmp 26)
(.seq (.reg false [⟨some 37, .build [(.int .i64 (0)), (.int .i64 (0)), (.slice none 0 0), (.slice none 0 0)] [], none, [], []⟩,
    ⟨none, .store 4 (.tmp 2) (.tmp 37), none, [2, 37], []⟩,
    ⟨some 3, .mv (.const (.int .i64 (3))), none, [], []⟩] [2, 3])
.ret)
.skip)))))))
(.seq (.reg true [⟨some 38, .foff 1 (.tmp 4), none, [4], []⟩,
    ⟨some 39, .load false 1 (.tmp 38), none, [38], [0]⟩,
    ⟨some 40, .idx 1 (.tmp 39) (.const (.int .i64 (0))), none, [39], [1, 0]⟩,
    ⟨some 41, .load false 1 (.tmp 40), none, [40], [2, 1, 0]⟩,
    ⟨some 42, .foff 1 (.tmp 4), none, [4], []⟩,
    ⟨some 43, .load false 1 (.tmp 42), none, [42], [4]⟩,
    ⟨some 44, .idx 1 (.tmp 43) (.const (.int .i64 (1))), none, [43], [5, 4]⟩,
    ⟨some 45, .load false 1 (.tmp 44), none, [44], [6, 5, 4]⟩,
    ⟨some 46, .foff 2 (.tmp 4), none, [4], []⟩,
    ⟨some 47, .load false 1 (.tmp 46), none, [46], [8]⟩,
    ⟨some 48, .idx 1 (.tmp 47) (.const (.int .i64 (0))), none, [47], [9, 8]⟩,
    ⟨some 49, .load false 1 (.tmp 48), none, [48], [10, 9, 8]⟩,
    ⟨some 50, .build [(.int .i64 (0)), (.int .i64 (0)), (.slice none 0 0), (.slice none 0 0)] [(0, 1, (.tmp 41)), (1, 1, (.tmp 45)), (2, 1, (.tmp 49))], none, [41, 45, 49], [3, 7, 11, 2, 1, 0, 6, 5, 4, 10, 9, 8]⟩,
    ⟨some 6, .new 57 [(.int .i64 (0)), (.int .i64 (0)), (.slice none 0 0), (.slice none 0 0)], none, [], []⟩,
    ⟨none, .store 4 (.tmp 6) (.tmp 50), none, [6, 50], [13, 12, 0, 1, 2, 3, 4, 5, 6, 7, 8, 9, 10, 11]⟩] [2, 4, 6])
(.seq (.seq (.reg false [⟨some 51, .foff 2 (.tmp 4), none, [4], []⟩,
    ⟨some 52, .load false 1 (.tmp 51), none, [51], []⟩,
    ⟨some 53, .slice 1 (.tmp 52) (some (.const (.int .i64 (1)))) none, none, [52], []⟩,
    ⟨some 54, .len false (.tmp 53), none, [53], []⟩,
    ⟨some 55, .mv (.const (.int .i64 (0))), none, [], []⟩] [2, 6, 53, 54, 55])
(.block 1 (.loop (.seq (.reg false [⟨some 56, .bin .lss (.tmp 55) (.tmp 54), none, [55, 54], []⟩] [2, 6, 53, 54, 55, 56])
(.seq (.cond (.tmp 56)
.skip
(.exit 1))
(.seq (.block 2 (.seq (.reg false [⟨some 57, .idx 1 (.tmp 53) (.tmp 55), none, [53, 55], []⟩,
    ⟨some 58, .load false 1 (.tmp 57), none, [57], []⟩,
    ⟨some 8, .mv (.tmp 58), none, [58], []⟩] [2, 6, 8, 53, 54, 55])
(.reg false [⟨some 59, .foff 3 (.tmp 6), none, [6], []⟩,
    ⟨some 60, .load false 1 (.tmp 59), none, [59], []⟩,
    ⟨some 61, .mv (.tmp 8), none, [8], []⟩,
    ⟨some 62, .b2s (.tmp 61), none, [61], []⟩,
    ⟨some 63, .bslice 9 1 1 [(.string (ByteArray.mk #[]))] [(0, 1, (.tmp 62))], none, [62], []⟩,
    ⟨some 64, .append 9 1 16 (.tmp 60) (.tmp 63), none, [60, 63], []⟩,
    ⟨some 65, .foff 3 (.tmp 6), none, [6], []⟩,
    ⟨none, .store 1 (.tmp 65) (.tmp 64), none, [65, 64], []⟩] [2, 6, 53, 54, 55])))
(.reg false [⟨some 66, .bin .add (.tmp 55) (.const (.int .i64 (1))), none, [55], []⟩,
    ⟨some 55, .mv (.tmp 66), none, [66], []⟩] [2, 6, 53, 54, 55])))))))
(.seq (.seq (.reg false [⟨some 68, .load true 4 (.tmp 6), none, [6], []⟩,
    ⟨some 69, .call 51 [(.tmp 68)], none, [68], []⟩,
    ⟨some 67, .mv (.tmp 69), none, [69], []⟩,
    ⟨some 70, .ext 0 (.tmp 67), none, [67], []⟩,
    ⟨some 71, .ext 1 (.tmp 67), none, [67], []⟩,
    ⟨some 9, .mv (.tmp 70), none, [70], []⟩,
    ⟨some 10, .mv (.tmp 71), none, [71], []⟩] [2, 6, 10])
(.seq (.reg false [⟨some 72, .mv (.tmp 10), none, [10], []⟩,
    ⟨some 73, .bin .neq (.tmp 72) (.const (.int .i64 (0))), none, [72], []⟩] [2, 6, 10, 73])
(.cond (.tmp 73)
(.seq (.reg false [⟨some 74, .build [(.int .i64 (0)), (.int .i64 (0)), (.slice none 0 0), (.slice none 0 0)] [], none, [], []⟩,
    ⟨some 75, .mv (.tmp 10), none, [10], []⟩,
    ⟨none, .store 4 (.tmp 2) (.tmp 74), none, [2, 74], []⟩,
    ⟨some 3, .mv (.tmp 75), none, [75], []⟩] [2, 3])
.ret)
.skip)))
(.seq (.reg false [⟨some 76, .load true 4 (.tmp 6), none, [6], []⟩,
    ⟨none, .store 4 (.tmp 2) (.tmp 76), none, [2, 76], []⟩,
    ⟨some 3, .mv (.const (.int .i64 (0))), none, [], []⟩] [2, 3])
.ret)))))))
theorem ok_53 : FnOk Tryz.prog 53 77 ac_53 [.cell 2 true 4, .tmp 3] := ⟨Tryz.f53, Tryz.func53, by kernel_rfl, by kernel_rfl, by kernel_rfl, by kernel_rfl, by kernel_rfl⟩
def ac_77 : AC :=
(.seq (.reg false [⟨some 4, .mv (.const .nilIface), none, [], []⟩] [0, 1])
(.seq (.seq (.reg false [⟨some 5, .mv (.tmp 0), none, [0], []⟩,
    ⟨some 6, .bin .eql (.tmp 5) (.const (.int .i64 (0))), none, [5], []⟩] [0, 1, 6])
(.cond (.tmp 6)
(.seq (.reg false [⟨some 4, .mv (.const .nilIface), none, [], []⟩] [4])
.ret)
.skip))
(.seq (.reg false [⟨some 7, .mv (.tmp 0), none, [0], []⟩,
    ⟨some 8, .mv (.tmp 1), none, [1], []⟩,
    ⟨some 9, .build [(.int .i64 (0)), (.string (ByteArray.mk #[]))] [(0, 1, (.tmp 7)), (1, 1, (.tmp 8))], none, [7, 8], []⟩,
    ⟨some 10, .box 197 (.tmp 9), none, [9], []⟩,
    ⟨some 11, .mkif 195 (.tmp 10), none, [10], []⟩,
    ⟨some 4, .mv (.tmp 11), none, [11], []⟩] [4])
.ret)))
theorem ok_77 : FnOk Tryz.prog 77 12 ac_77 [.tmp 4] := ⟨Tryz.f77, Tryz.func77, by kernel_rfl, by kernel_rfl, by kernel_rfl, by kernel_rfl, by kernel_rfl⟩
def ac_83 : AC :=
(.seq (.reg false [⟨some 6, .mv (.const (.int .i64 (0))), none, [], []⟩,
    ⟨some 7, .mv (.const (.bool false)), none, [], []⟩] [0, 1, 2])
(.seq (.reg false [⟨some 12, .mv (.tmp 0), none, [0], []⟩,
    ⟨some 13, .len false (.tmp 12), none, [12], []⟩,
    ⟨some 8, .mv (.tmp 13), none, [13], []⟩] [0, 1, 2, 8])
(.seq (.reg false [⟨some 14, .mv (.tmp 8), none, [8], []⟩,
    ⟨some 9, .mv (.const (.int .i64 (0))), none, [], []⟩,
    ⟨some 10, .mv (.tmp 14), none, [14], []⟩] [0, 1, 2, 8, 9, 10])
(.seq (.block 0 (.loop (.seq (.seq (.reg false [⟨some 15, .mv (.tmp 9), none, [9], []⟩,
    ⟨some 16, .mv (.tmp 10), none, [10], []⟩,
    ⟨some 17, .bin .lss (.tmp 15) (.tmp 16), none, [15, 16], []⟩] [0, 1, 2, 8, 9, 10, 17])
(.cond (.tmp 17)
.skip
(.exit 0)))
(.block 1 (.seq (.reg false [⟨some 18, .mv (.tmp 9), none, [9], []⟩,
    ⟨some 19, .mv (.tmp 10), none, [10], []⟩,
    ⟨some 20, .bin .add (.tmp 18) (.tmp 19), none, [18, 19], []⟩,
    ⟨some 21, .conv .u64 (.tmp 20), none, [20], []⟩,
    ⟨some 22, .bin .shr (.tmp 21) (.const (.int .u64 (1))), none, [21], []⟩,
    ⟨some 23, .conv .i64 (.tmp 22), none, [22], []⟩,
    ⟨some 11, .mv (.tmp 23), none, [23], []⟩] [0, 1, 2, 8, 9, 10, 11])
(.seq (.reg false [⟨some 24, .mv (.tmp 2), none, [2], []⟩,
    ⟨some 25, .mv (.tmp 0), none, [0], []⟩,
    ⟨some 26, .mv (.tmp 11), none, [11], []⟩,
    ⟨some 27, .idx 6 (.tmp 25) (.tmp 26), none, [25, 26], []⟩,
    ⟨some 28, .load true 6 (.tmp 27), none, [27], []⟩,
    ⟨some 29, .mv (.tmp 1), none, [1], []⟩,
    ⟨some 30, .callv (.tmp 24) [(.tmp 28), (.tmp 29)], none, [24, 28, 29], []⟩,
    ⟨some 31, .bin .lss (.tmp 30) (.const (.int .i64 (0))), none, [30], []⟩] [0, 1, 2, 8, 9, 10, 11, 31])
(.cond (.tmp 31)
(.reg false [⟨some 32, .mv (.tmp 11), none, [11], []⟩,
    ⟨some 33, .bin .add (.tmp 32) (.const (.int .i64 (1))), none, [32], []⟩,
    ⟨some 9, .mv (.tmp 33), none, [33], []⟩] [0, 1, 2, 8, 9, 10])
(.reg false [⟨some 34, .mv (.tmp 11), none, [11], []⟩,
    ⟨some 10, .mv (.tmp 34), none, [34], []⟩] [0, 1, 2, 8, 9, 10]))))))))
(.seq (.reg false [⟨some 35, .mv (.tmp 9), none, [9], []⟩,
    ⟨some 36, .mv (.tmp 9), none, [9], []⟩,
    ⟨some 37, .mv (.tmp 8), none, [8], []⟩,
    ⟨some 38, .bin .lss (.tmp 36) (.tmp 37), none, [36, 37], []⟩,
    ⟨some 39, .mv (.tmp 38), none, [38], []⟩,
    ⟨some 40, .mv (.tmp 2), some (39, true), [2, 39], []⟩,
    ⟨some 41, .mv (.tmp 0), some (39, true), [0, 39], []⟩,
    ⟨some 42, .mv (.tmp 9), some (39, true), [9, 39], []⟩,
    ⟨some 43, .idx 6 (.tmp 41) (.tmp 42), some (39, true), [41, 42, 39], []⟩,
    ⟨some 44, .load true 6 (.tmp 43), some (39, true), [43, 39], []⟩,
    ⟨some 45, .mv (.tmp 1), some (39, true), [1, 39], []⟩,
    ⟨some 46, .callv (.tmp 40) [(.tmp 44), (.tmp 45)], some (39, true), [40, 44, 45, 39], []⟩,
    ⟨some 47, .bin .eql (.tmp 46) (.const (.int .i64 (0))), some (39, true), [46, 39], []⟩,
    ⟨some 48, .pick (.tmp 39) (.tmp 47) (.const (.bool false)), none, [39, 47], []⟩,
    ⟨some 6, .mv (.tmp 35), none, [35], []⟩,
    ⟨some 7, .mv (.tmp 48), none, [48], []⟩] [6, 7])
.ret)))))
theorem ok_83 : FnOk Tryz.prog 83 49 ac_83 [.tmp 6, .tmp 7] := ⟨Tryz.f83, Tryz.func83, by kernel_rfl, by kernel_rfl, by kernel_rfl, by kernel_rfl, by kernel_rfl⟩
def ac_84 : AC :=
(.seq (.reg false [⟨some 2, .box 118 (.tmp 0), none, [0], []⟩,
    ⟨some 4, .mv (.const (.int .i64 (0))), none, [], []⟩] [1, 2])
(.seq (.reg false [⟨some 5, .foff 0 (.tmp 2), none, [2], []⟩,
    ⟨some 6, .load false 1 (.tmp 5), none, [5], []⟩,
    ⟨some 7, .mv (.tmp 1), none, [1], []⟩,
    ⟨some 8, .call 85 [(.tmp 6), (.tmp 7)], none, [6, 7], []⟩,
    ⟨some 4, .mv (.tmp 8), none, [8], []⟩] [4])
.ret))
theorem ok_84 : FnOk Tryz.prog 84 9 ac_84 [.tmp 4] := ⟨Tryz.f84, Tryz.func84, by kernel_rfl, by kernel_rfl, by kernel_rfl, by kernel_rfl, by kernel_rfl⟩
end Go.Proofs.YtonglhkiobibgaaGreatDoor
namespace Go.Proofs.YtonglhkiobibgaaGreatDoor
set_option maxRecDepth 100000
def ac_85 : AC :=
(.seq (.reg false [⟨some 4, .mv (.const (.int .i64 (0))), none, [], []⟩] [0, 1])
(.seq (.reg false [⟨some 7, .mv (.tmp 0), none, [0], []⟩,
    ⟨some 8, .call 127 [(.tmp 7)], none, [7], []⟩,
    ⟨some 5, .mv (.tmp 8), none, [8], []⟩] [0, 1, 5])
(.seq (.reg false [⟨some 9, .mv (.tmp 1), none, [1], []⟩,
    ⟨some 10, .call 127 [(.tmp 9)], none, [9], []⟩,
    ⟨some 6, .mv (.tmp 10), none, [10], []⟩] [0, 1, 5, 6])
(.seq (.seq (.reg false [⟨some 11, .mv (.tmp 5), none, [5], []⟩] [0, 1, 6, 11])
(.cond (.tmp 11)
(.seq (.seq (.reg false [⟨some 12, .mv (.tmp 6), none, [6], []⟩] [12])
(.cond (.tmp 12)
(.seq (.reg false [⟨some 4, .mv (.const (.int .i64 (0))), none, [], []⟩] [4])
.ret)
.skip))
(.seq (.reg false [⟨some 4, .mv (.const (.int .i64 (-1))), none, [], []⟩] [4])
.ret))
.skip))
(.seq (.seq (.reg false [⟨some 13, .mv (.tmp 6), none, [6], []⟩] [0, 1, 13])
(.cond (.tmp 13)
(.seq (.reg false [⟨some 4, .mv (.const (.int .i64 (1))), none, [], []⟩] [4])
.ret)
.skip))
(.seq (.seq (.reg false [⟨some 14, .mv (.tmp 0), none, [0], []⟩,
    ⟨some 15, .mv (.tmp 1), none, [1], []⟩,
    ⟨some 16, .bin .lss (.tmp 14) (.tmp 15), none, [14, 15], []⟩] [0, 1, 16])
(.cond (.tmp 16)
(.seq (.reg false [⟨some 4, .mv (.const (.int .i64 (-1))), none, [], []⟩] [4])
.ret)
.skip))
(.seq (.seq (.reg false [⟨some 17, .mv (.tmp 0), none, [0], []⟩,
    ⟨some 18, .mv (.tmp 1), none, [1], []⟩,
    ⟨some 19, .bin .gtr (.tmp 17) (.tmp 18), none, [17, 18], []⟩] [19])
(.cond (.tmp 19)
(.seq (.reg false [⟨some 4, .mv (.const (.int .i64 (1))), none, [], []⟩] [4])
.ret)
.skip))
(.seq (.reg false [⟨some 4, .mv (.const (.int .i64 (0))), none, [], []⟩] [4])
.ret))))))))
theorem ok_85 : FnOk Tryz.prog 85 20 ac_85 [.tmp 4] := ⟨Tryz.f85, Tryz.func85, by kernel_rfl, by kernel_rfl, by kernel_rfl, by kernel_rfl, by kernel_rfl⟩
def ac_86 : AC :=
(.seq (.reg false [⟨some 4, .mv (.const (.bool false)), none, [], []⟩] [0, 1])
(.seq (.block 0 (.seq (.seq (.reg false [⟨some 6, .mv (.tmp 0), none, [0], []⟩,
    ⟨some 7, .nilc (.tmp 6), none, [6], []⟩,
    ⟨some 8, .foff 3 (.tmp 7), none, [7], []⟩,
    ⟨some 9, .load false 1 (.tmp 8), none, [8], []⟩,
    ⟨some 10, .call 128 [(.tmp 9)], none, [9], []⟩,
    ⟨some 11, .bin .neq (.tmp 10) (.const (.int .i64 (0))), none, [10], []⟩,
    ⟨some 5, .mv (.tmp 11), none, [11], []⟩] [0, 1, 5])
(.cond (.tmp 5)
.skip
(.seq (.reg false [⟨some 12, .mv (.tmp 0), none, [0], []⟩,
    ⟨some 13, .nilc (.tmp 12), none, [12], []⟩,
    ⟨some 14, .foff 4 (.tmp 13), none, [13], []⟩,
    ⟨some 15, .load true 2 (.tmp 14), none, [14], []⟩,
    ⟨some 16, .call 118 [(.tmp 15)], none, [15], []⟩,
    ⟨some 17, .bin .neq (.tmp 16) (.const (.int .i64 (0))), none, [16], []⟩,
    ⟨some 5, .mv (.tmp 17), none, [17], []⟩] [0, 1, 5])
(.cond (.tmp 5)
.skip
(.reg false [⟨some 18, .mv (.tmp 0), none, [0], []⟩,
    ⟨some 19, .nilc (.tmp 18), none, [18], []⟩,
    ⟨some 20, .foff 2 (.tmp 19), none, [19], []⟩,
    ⟨some 21, .load false 1 (.tmp 20), none, [20], []⟩,
    ⟨some 22, .mv (.tmp 1), none, [1], []⟩,
    ⟨some 23, .bin .neq (.tmp 21) (.tmp 22), none, [21, 22], []⟩,
    ⟨some 5, .mv (.tmp 23), none, [23], []⟩] [0, 1, 5])))))
(.cond (.tmp 5)
(.seq (.reg false [⟨some 4, .mv (.const (.bool false)), none, [], []⟩] [4])
.ret)
(.seq (.seq (.reg false [⟨some 25, .mv (.tmp 0), none, [0], []⟩,
    ⟨some 26, .nilc (.tmp 25), none, [25], []⟩,
    ⟨some 27, .foff 1 (.tmp 26), none, [26], []⟩,
    ⟨some 28, .load false 1 (.tmp 27), none, [27], []⟩,
    ⟨some 29, .mv (.tmp 28), none, [28], []⟩,
    ⟨some 30, .mv (.tmp 0), some (29, true), [0, 29], []⟩,
    ⟨some 31, .nilc (.tmp 30), some (29, true), [30, 29], []⟩,
    ⟨some 32, .foff 4 (.tmp 31), some (29, true), [31, 29], []⟩,
    ⟨some 33, .foff 0 (.tmp 32), some (29, true), [32, 29], []⟩,
    ⟨some 34, .load false 1 (.tmp 33), some (29, true), [33, 29], []⟩,
    ⟨some 35, .bin .neq (.tmp 34) (.const (.int .i64 (0))), some (29, true), [34, 29], []⟩,
    ⟨some 36, .pick (.tmp 29) (.tmp 35) (.const (.bool false)), none, [29, 35], []⟩,
    ⟨some 24, .mv (.tmp 36), none, [36], []⟩] [0, 1, 24])
(.cond (.tmp 24)
.skip
(.reg false [⟨some 37, .mv (.tmp 0), none, [0], []⟩,
    ⟨some 38, .nilc (.tmp 37), none, [37], []⟩,
    ⟨some 39, .foff 1 (.tmp 38), none, [38], []⟩,
    ⟨some 40, .load false 1 (.tmp 39), none, [39], []⟩,
    ⟨some 41, .un .not (.tmp 40), none, [40], []⟩,
    ⟨some 42, .mv (.tmp 41), none, [41], []⟩,
    ⟨some 43, .mv (.tmp 0), some (42, true), [0, 42], []⟩,
    ⟨some 44, .nilc (.tmp 43), some (42, true), [43, 42], []⟩,
    ⟨some 45, .foff 3 (.tmp 44), some (42, true), [44, 42], []⟩,
    ⟨some 46, .load false 1 (.tmp 45), some (42, true), [45, 42], []⟩,
    ⟨some 47, .len false (.tmp 46), some (42, true), [46, 42], []⟩,
    ⟨some 48, .bin .gtr (.tmp 47) (.const (.int .i64 (0))), some (42, true), [47, 42], []⟩,
    ⟨some 49, .pick (.tmp 42) (.tmp 48) (.const (.bool false)), none, [42, 48], []⟩,
    ⟨some 24, .mv (.tmp 49), none, [49], []⟩] [0, 1, 24])))
(.cond (.tmp 24)
(.seq (.reg false [⟨some 4, .mv (.const (.bool false)), none, [], []⟩] [4])
.ret)
(.seq (.reg false [⟨some 51, .mv (.tmp 0), none, [0], []⟩,
    ⟨some 52, .nilc (.tmp 51), none, [51], []⟩,
    ⟨some 53, .foff 0 (.tmp 52), none, [52], []⟩,
    ⟨some 54, .load false 1 (.tmp 53), none, [53], []⟩,
    ⟨some 55, .bin .eql (.tmp 54) (.const (.int .i64 (1))), none, [54], []⟩,
    ⟨some 50, .mv (.tmp 55), none, [55], []⟩] [0, 1, 50])
(.cond (.tmp 50)
(.seq (.reg false [⟨some 56, .mv (.tmp 0), none, [0], []⟩,
    ⟨some 57, .nilc (.tmp 56), none, [56], []⟩,
    ⟨some 58, .foff 1 (.tmp 57), none, [57], []⟩,
    ⟨some 59, .load false 1 (.tmp 58), none, [58], []⟩,
    ⟨some 60, .mv (.tmp 59), none, [59], []⟩,
    ⟨some 61, .mv (.tmp 1), some (60, true), [1, 60], []⟩,
    ⟨some 62, .bin .eql (.tmp 61) (.const (.int .i64 (0))), some (60, true), [61, 60], []⟩,
    ⟨some 63, .pick (.tmp 60) (.tmp 62) (.const (.bool false)), none, [60, 62], []⟩,
    ⟨some 4, .mv (.tmp 63), none, [63], []⟩] [4])
.ret)
(.seq (.reg false [⟨some 65, .mv (.tmp 0), none, [0], []⟩,
    ⟨some 66, .nilc (.tmp 65), none, [65], []⟩,
    ⟨some 67, .foff 1 (.tmp 66), none, [66], []⟩,
    ⟨some 68, .load false 1 (.tmp 67), none, [67], []⟩,
    ⟨some 64, .mv (.tmp 68), none, [68], []⟩] [1, 64])
(.cond (.tmp 64)
(.seq (.reg false [⟨some 69, .mv (.tmp 1), none, [1], []⟩,
    ⟨some 70, .bin .eql (.tmp 69) (.const (.int .i64 (1))), none, [69], []⟩,
    ⟨some 4, .mv (.tmp 70), none, [70], []⟩] [4])
.ret)
.skip)))))))))
(.seq (.reg false [⟨some 71, .mv (.tmp 1), none, [1], []⟩,
    ⟨some 72, .bin .geq (.tmp 71) (.const (.int .i64 (1))), none, [71], []⟩,
    ⟨some 73, .mv (.tmp 72), none, [72], []⟩,
    ⟨some 74, .mv (.tmp 1), some (73, true), [1, 73], []⟩,
    ⟨some 75, .bin .leq (.tmp 74) (.const (.int .i64 (16))), some (73, true), [74, 73], []⟩,
    ⟨some 76, .pick (.tmp 73) (.tmp 75) (.const (.bool false)), none, [73, 75], []⟩,
    ⟨some 4, .mv (.tmp 76), none, [76], []⟩] [4])
.ret)))
theorem ok_86 : FnOk Tryz.prog 86 77 ac_86 [.tmp 4] := ⟨Tryz.f86, Tryz.func86, by kernel_rfl, by kernel_rfl, by kernel_rfl, by kernel_rfl, by kernel_rfl⟩
def ac_87 : AC :=
(.seq (.reg false [⟨some 10, .mv (.tmp 3), none, [3], []⟩,
    ⟨some 11, .mv (.tmp 1), none, [1], []⟩,
    ⟨none, .mupd (.tmp 10) (.tmp 11) (.const (.bool true)), none, [10, 11], []⟩] [0, 1, 2, 3])
(.seq (.reg false [⟨some 12, .mv (.tmp 2), none, [2], []⟩,
    ⟨some 13, .bin .gtr (.tmp 12) (.const (.int .i64 (0))), none, [12], []⟩] [0, 1, 2, 3, 13])
(.cond (.tmp 13)
(.seq (.reg false [⟨some 14, .mv (.tmp 0), none, [0], []⟩,
    ⟨some 15, .mv (.tmp 1), none, [1], []⟩,
    ⟨some 16, .call 116 [(.tmp 14), (.tmp 15)], none, [14, 15], []⟩,
    ⟨some 17, .nilc (.tmp 16), none, [16], []⟩,
    ⟨some 18, .foff 3 (.tmp 17), none, [17], []⟩,
    ⟨some 19, .load false 1 (.tmp 18), none, [18], []⟩,
    ⟨some 20, .len false (.tmp 19), none, [19], []⟩,
    ⟨some 21, .mv (.const (.int .i64 (0))), none, [], []⟩] [0, 2, 3, 19, 20, 21])
(.block 0 (.loop (.seq (.reg false [⟨some 22, .bin .lss (.tmp 21) (.tmp 20), none, [21, 20], []⟩] [0, 2, 3, 19, 20, 21, 22])
(.seq (.cond (.tmp 22)
.skip
(.exit 0))
(.seq (.block 1 (.seq (.reg false [⟨some 23, .idx 2 (.tmp 19) (.tmp 21), none, [19, 21], []⟩,
    ⟨some 24, .load true 2 (.tmp 23), none, [23], []⟩,
    ⟨some 9, .new 134 [(.string (ByteArray.mk #[])), (.int .i64 (0))], none, [], []⟩,
    ⟨none, .store 2 (.tmp 9) (.tmp 24), none, [9, 24], []⟩] [0, 2, 3, 9, 19, 20, 21])
(.reg false [⟨some 25, .mv (.tmp 0), none, [0], []⟩,
    ⟨some 26, .foff 1 (.tmp 9), none, [9], []⟩,
    ⟨some 27, .load false 1 (.tmp 26), none, [26], []⟩,
    ⟨some 28, .mv (.tmp 2), none, [2], []⟩,
    ⟨some 29, .bin .sub (.tmp 28) (.const (.int .i64 (1))), none, [28], []⟩,
    ⟨some 30, .mv (.tmp 3), none, [3], []⟩,
    ⟨some 31, .call 87 [(.tmp 25), (.tmp 27), (.tmp 29), (.tmp 30)], none, [25, 27, 29, 30], []⟩] [0, 2, 3, 19, 20, 21])))
(.reg false [⟨some 32, .bin .add (.tmp 21) (.const (.int .i64 (1))), none, [21], []⟩,
    ⟨some 21, .mv (.tmp 32), none, [32], []⟩] [0, 2, 3, 19, 20, 21])))))))
.skip)))
theorem ok_87 : FnOk Tryz.prog 87 33 ac_87 [] := ⟨Tryz.f87, Tryz.func87, by kernel_rfl, by kernel_rfl, by kernel_rfl, by kernel_rfl, by kernel_rfl⟩
def ac_88 : AC :=
(.seq (.reg false [⟨some 6, .mv (.const (.int .i64 (0))), none, [], []⟩] [0, 1, 2])
(.seq (.reg false [⟨some 11, .mv (.tmp 0), none, [0], []⟩,
    ⟨some 12, .mv (.tmp 1), none, [1], []⟩,
    ⟨some 13, .call 116 [(.tmp 11), (.tmp 12)], none, [11, 12], []⟩,
    ⟨some 7, .mv (.tmp 13), none, [13], []⟩] [0, 2, 7])
(.seq (.seq (.reg false [⟨some 14, .mv (.tmp 7), none, [7], []⟩,
    ⟨some 15, .nilc (.tmp 14), none, [14], []⟩,
    ⟨some 16, .foff 1 (.tmp 15), none, [15], []⟩,
    ⟨some 17, .load false 1 (.tmp 16), none, [16], []⟩,
    ⟨some 18, .un .not (.tmp 17), none, [17], []⟩,
    ⟨some 19, .mv (.tmp 18), none, [18], []⟩,
    ⟨some 20, .mv (.tmp 2), some (19, false), [2, 19], []⟩,
    ⟨some 21, .bin .lss (.tmp 20) (.const (.int .i64 (0))), some (19, false), [20, 19], []⟩,
    ⟨some 22, .pick (.tmp 19) (.const (.bool true)) (.tmp 21), none, [19, 21], []⟩] [0, 2, 7, 22])
(.cond (.tmp 22)
(.seq (.reg false [⟨some 6, .mv (.const (.int .i64 (0))), none, [], []⟩] [6])
.ret)
.skip))
(.seq (.reg false [⟨some 8, .mv (.const (.int .i64 (0))), none, [], []⟩] [0, 2, 7, 8])
(.seq (.seq (.reg false [⟨some 23, .mv (.tmp 7), none, [7], []⟩,
    ⟨some 24, .nilc (.tmp 23), none, [23], []⟩,
    ⟨some 25, .foff 3 (.tmp 24), none, [24], []⟩,
    ⟨some 26, .load false 1 (.tmp 25), none, [25], []⟩,
    ⟨some 27, .len false (.tmp 26), none, [26], []⟩,
    ⟨some 28, .mv (.const (.int .i64 (0))), none, [], []⟩] [0, 2, 8, 26, 27, 28])
(.block 0 (.loop (.seq (.reg false [⟨some 29, .bin .lss (.tmp 28) (.tmp 27), none, [28, 27], []⟩] [0, 2, 8, 26, 27, 28, 29])
(.seq (.cond (.tmp 29)
.skip
(.exit 0))
(.seq (.block 1 (.seq (.reg false [⟨some 30, .idx 2 (.tmp 26) (.tmp 28), none, [26, 28], []⟩,
    ⟨some 31, .load true 2 (.tmp 30), none, [30], []⟩,
    ⟨some 10, .new 134 [(.string (ByteArray.mk #[])), (.int .i64 (0))], none, [], []⟩,
    ⟨none, .store 2 (.tmp 10) (.tmp 31), none, [10, 31], []⟩] [0, 2, 8, 10, 26, 27, 28])
(.reg false [⟨some 32, .mv (.tmp 8), none, [8], []⟩,
    ⟨some 33, .mv (.tmp 0), none, [0], []⟩,
    ⟨some 34, .foff 1 (.tmp 10), none, [10], []⟩,
    ⟨some 35, .load false 1 (.tmp 34), none, [34], []⟩,
    ⟨some 36, .mv (.tmp 2), none, [2], []⟩,
    ⟨some 37, .bin .sub (.tmp 36) (.const (.int .i64 (1))), none, [36], []⟩,
    ⟨some 38, .call 88 [(.tmp 33), (.tmp 35), (.tmp 37)], none, [33, 35, 37], []⟩,
    ⟨some 39, .bin .add (.const (.int .i64 (1))) (.tmp 38), none, [38], []⟩,
    ⟨some 40, .mm true (.tmp 32) (.tmp 39), none, [32, 39], []⟩,
    ⟨some 8, .mv (.tmp 40), none, [40], []⟩] [0, 2, 8, 26, 27, 28])))
(.reg false [⟨some 41, .bin .add (.tmp 28) (.const (.int .i64 (1))), none, [28], []⟩,
    ⟨some 28, .mv (.tmp 41), none, [41], []⟩] [0, 2, 8, 26, 27, 28])))))))
(.seq (.reg false [⟨some 42, .mv (.tmp 8), none, [8], []⟩,
    ⟨some 6, .mv (.tmp 42), none, [42], []⟩] [6])
.ret))))))
theorem ok_88 : FnOk Tryz.prog 88 43 ac_88 [.tmp 6] := ⟨Tryz.f88, Tryz.func88, by kernel_rfl, by kernel_rfl, by kernel_rfl, by kernel_rfl, by kernel_rfl⟩
def ac_89 : AC :=
(.seq (.reg false [⟨some 1, .box 28 (.tmp 0), none, [0], []⟩,
    ⟨some 2, .new 28 [(.slice none 0 0), (.int .i64 (0))], none, [], []⟩] [1, 2])
(.seq (.reg false [⟨some 6, .foff 0 (.tmp 1), none, [1], []⟩,
    ⟨some 7, .load false 1 (.tmp 6), none, [6], []⟩,
    ⟨some 8, .call 129 [(.tmp 7)], none, [7], []⟩,
    ⟨some 9, .foff 0 (.tmp 1), none, [1], []⟩,
    ⟨none, .store 1 (.tmp 9) (.tmp 8), none, [9, 8], []⟩] [1, 2])
(.seq (.seq (.reg false [⟨some 10, .foff 0 (.tmp 1), none, [1], []⟩,
    ⟨some 11, .load false 1 (.tmp 10), none, [10], []⟩,
    ⟨some 12, .len false (.tmp 11), none, [11], []⟩,
    ⟨some 13, .mv (.const (.int .i64 (0))), none, [], []⟩] [1, 2, 12, 13])
(.block 0 (.loop (.seq (.reg false [⟨some 14, .bin .lss (.tmp 13) (.tmp 12), none, [13, 12], []⟩] [1, 2, 12, 13, 14])
(.seq (.cond (.tmp 14)
.skip
(.exit 0))
(.seq (.block 1 (.seq (.reg false [⟨some 15, .mv (.tmp 13), none, [13], []⟩,
    ⟨some 3, .mv (.tmp 15), none, [15], []⟩] [1, 2, 3, 12, 13])
(.seq (.reg false [⟨some 16, .foff 0 (.tmp 1), none, [1], []⟩,
    ⟨some 17, .load false 1 (.tmp 16), none, [16], []⟩,
    ⟨some 18, .mv (.tmp 3), none, [3], []⟩,
    ⟨some 19, .idx 6 (.tmp 17) (.tmp 18), none, [17, 18], []⟩,
    ⟨some 4, .mv (.tmp 19), none, [19], []⟩] [1, 2, 4, 12, 13])
(.seq (.reg false [⟨some 20, .mv (.tmp 4), none, [4], []⟩,
    ⟨some 21, .mv (.tmp 4), none, [4], []⟩,
    ⟨some 22, .nilc (.tmp 21), none, [21], []⟩,
    ⟨some 23, .foff 3 (.tmp 22), none, [22], []⟩,
    ⟨some 24, .load false 1 (.tmp 23), none, [23], []⟩,
    ⟨some 25, .call 130 [(.tmp 24)], none, [24], []⟩,
    ⟨some 26, .nilc (.tmp 20), none, [20], []⟩,
    ⟨some 27, .foff 3 (.tmp 26), none, [26], []⟩,
    ⟨none, .store 1 (.tmp 27) (.tmp 25), none, [27, 25], []⟩] [1, 2, 4, 12, 13])
(.seq (.reg false [⟨some 28, .mv (.tmp 4), none, [4], []⟩,
    ⟨some 29, .mv (.tmp 4), none, [4], []⟩,
    ⟨some 30, .nilc (.tmp 29), none, [29], []⟩,
    ⟨some 31, .foff 4 (.tmp 30), none, [30], []⟩,
    ⟨some 32, .foff 1 (.tmp 31), none, [31], []⟩,
    ⟨some 33, .load false 1 (.tmp 32), none, [32], []⟩,
    ⟨some 34, .call 131 [(.tmp 33)], none, [33], []⟩,
    ⟨some 35, .nilc (.tmp 28), none, [28], []⟩,
    ⟨some 36, .foff 4 (.tmp 35), none, [35], []⟩,
    ⟨some 37, .foff 1 (.tmp 36), none, [36], []⟩,
    ⟨none, .store 1 (.tmp 37) (.tmp 34), none, [37, 34], []⟩] [1, 2, 4, 12, 13])
(.seq (.reg false [⟨some 38, .mv (.tmp 4), none, [4], []⟩,
    ⟨some 39, .nilc (.tmp 38), none, [38], []⟩,
    ⟨some 40, .foff 4 (.tmp 39), none, [39], []⟩,
    ⟨some 41, .foff 1 (.tmp 40), none, [40], []⟩,
    ⟨some 42, .load false 1 (.tmp 41), none, [41], []⟩,
    ⟨some 43, .len false (.tmp 42), none, [42], []⟩,
    ⟨some 44, .mv (.const (.int .i64 (0))), none, [], []⟩] [1, 2, 4, 12, 13, 43, 44])
(.block 2 (.loop (.seq (.reg false [⟨some 45, .bin .lss (.tmp 44) (.tmp 43), none, [44, 43], []⟩] [1, 2, 4, 12, 13, 43, 44, 45])
(.seq (.cond (.tmp 45)
.skip
(.exit 2))
(.seq (.block 3 (.seq (.reg false [⟨some 46, .mv (.tmp 44), none, [44], []⟩,
    ⟨some 5, .mv (.tmp 46), none, [46], []⟩] [1, 2, 4, 5, 12, 13, 43, 44])
(.reg true [⟨some 47, .mv (.tmp 4), none, [4], []⟩,
    ⟨some 48, .nilc (.tmp 47), none, [47], [0]⟩,
    ⟨some 49, .foff 4 (.tmp 48), none, [48], [1, 0]⟩,
    ⟨some 50, .foff 1 (.tmp 49), none, [49], [2, 1, 0]⟩,
    ⟨some 51, .load false 1 (.tmp 50), none, [50], [3, 2, 1, 0]⟩,
    ⟨some 52, .mv (.tmp 5), none, [5], []⟩,
    ⟨some 53, .mv (.tmp 4), none, [4], []⟩,
    ⟨some 54, .nilc (.tmp 53), none, [53], [6]⟩,
    ⟨some 55, .foff 4 (.tmp 54), none, [54], [7, 6]⟩,
    ⟨some 56, .foff 1 (.tmp 55), none, [55], [8, 7, 6]⟩,
    ⟨some 57, .load false 1 (.tmp 56), none, [56], [9, 8, 7, 6]⟩,
    ⟨some 58, .mv (.tmp 5), none, [5], []⟩,
    ⟨some 59, .idx 2 (.tmp 57) (.tmp 58), none, [57, 58], [10, 11, 9, 8, 7, 6]⟩,
    ⟨some 60, .foff 1 (.tmp 59), none, [59], [12, 10, 11, 9, 8, 7, 6]⟩,
    ⟨some 61, .load false 1 (.tmp 60), none, [60], [13, 12, 10, 11, 9, 8, 7, 6]⟩,
    ⟨some 62, .call 132 [(.tmp 61)], none, [61], [14, 13, 12, 10, 11, 9, 8, 7, 6]⟩,
    ⟨some 63, .idx 2 (.tmp 51) (.tmp 52), none, [51, 52], [4, 5, 0, 1, 2, 3, 6, 7, 8, 9, 10, 11, 12, 13, 14, 15]⟩,
    ⟨some 64, .foff 1 (.tmp 63), none, [63], [16, 0, 1, 2, 3, 4, 5, 6, 7, 8, 9, 10, 11, 12, 13, 14, 15]⟩,
    ⟨none, .store 1 (.tmp 64) (.tmp 62), none, [64, 62], [17, 15, 0, 1, 2, 3, 4, 5, 6, 7, 8, 9, 10, 11, 12, 13, 14, 16]⟩] [1, 2, 4, 12, 13, 43, 44])))
(.reg false [⟨some 65, .bin .add (.tmp 44) (.const (.int .i64 (1))), none, [44], []⟩,
    ⟨some 44, .mv (.tmp 65), none, [65], []⟩] [1, 2, 4, 12, 13, 43, 44]))))))))))))
(.reg false [⟨some 66, .bin .add (.tmp 13) (.const (.int .i64 (1))), none, [13], []⟩,
    ⟨some 13, .mv (.tmp 66), none, [66], []⟩] [1, 2, 12, 13])))))))
(.seq (.reg false [⟨some 67, .load true 2 (.tmp 1), none, [1], []⟩,
    ⟨none, .store 2 (.tmp 2) (.tmp 67), none, [2, 67], []⟩] [2])
.ret))))
theorem ok_89 : FnOk Tryz.prog 89 68 ac_89 [.cell 2 true 2] := ⟨Tryz.f89, Tryz.func89, by kernel_rfl, by kernel_rfl, by kernel_rfl, by kernel_rfl, by kernel_rfl⟩
def ac_90 : AC :=
(.seq (.reg false [⟨some 2, .box 28 (.tmp 0), none, [0], []⟩,
    ⟨some 3, .box 55 (.tmp 1), none, [1], []⟩,
    ⟨some 4, .new 57 [(.int .i64 (0)), (.int .i64 (0)), (.slice none 0 0), (.slice none 0 0)], none, [], []⟩] [2, 3, 4])
(.seq (.seq (.reg false [⟨some 6, .foff 0 (.tmp 3), none, [3], []⟩,
    ⟨some 7, .load false 1 (.tmp 6), none, [6], []⟩] [2, 3, 4, 7])
(.block 0 (.seq (.reg false [⟨some 9, .bin .eql (.tmp 7) (.const (.int .i64 (9))), none, [7], []⟩,
    ⟨some 8, .mv (.tmp 9), none, [9], []⟩] [2, 3, 4, 7, 8])
(.cond (.tmp 8)
(.seq (.reg false [⟨some 11, .load true 2 (.tmp 2), none, [2], []⟩,
    ⟨some 12, .foff 1 (.tmp 3), none, [3], []⟩,
    ⟨some 13, .load false 1 (.tmp 12), none, [12], []⟩,
    ⟨some 14, .foff 3 (.tmp 3), none, [3], []⟩,
    ⟨some 15, .load false 1 (.tmp 14), none, [14], []⟩,
    ⟨some 16, .foff 4 (.tmp 3), none, [3], []⟩,
    ⟨some 17, .load false 1 (.tmp 16), none, [16], []⟩,
    ⟨some 18, .call 26 [(.tmp 11), (.tmp 13), (.tmp 15), (.tmp 17)], none, [11, 13, 15, 17], []⟩,
    ⟨some 10, .mv (.tmp 18), none, [18], []⟩,
    ⟨some 19, .ext 0 (.tmp 10), none, [10], []⟩,
    ⟨some 20, .ext 1 (.tmp 10), none, [10], []⟩,
    ⟨some 21, .foff 2 (.tmp 4), none, [4], []⟩,
    ⟨none, .store 1 (.tmp 21) (.tmp 19), none, [21, 19], []⟩,
    ⟨some 22, .foff 0 (.tmp 4), none, [4], []⟩,
    ⟨none, .store 1 (.tmp 22) (.tmp 20), none, [22, 20], []⟩] [4])
(.reg false [⟨some 23, .foff 2 (.tmp 4), none, [4], []⟩,
    ⟨some 24, .load false 1 (.tmp 23), none, [23], []⟩,
    ⟨some 25, .len false (.tmp 24), none, [24], []⟩,
    ⟨some 26, .foff 1 (.tmp 4), none, [4], []⟩,
    ⟨none, .store 1 (.tmp 26) (.tmp 25), none, [26, 25], []⟩] [4]))
(.seq (.reg false [⟨some 28, .bin .eql (.tmp 7) (.const (.int .i64 (10))), none, [7], []⟩,
    ⟨some 27, .mv (.tmp 28), none, [28], []⟩] [2, 3, 4, 7, 27])
(.cond (.tmp 27)
(.seq (.reg false [⟨some 30, .load true 2 (.tmp 2), none, [2], []⟩,
    ⟨some 31, .foff 1 (.tmp 3), none, [3], []⟩,
    ⟨some 32, .load false 1 (.tmp 31), none, [31], []⟩,
    ⟨some 33, .call 28 [(.tmp 30), (.tmp 32)], none, [30, 32], []⟩,
    ⟨some 29, .mv (.tmp 33), none, [33], []⟩,
    ⟨some 34, .ext 0 (.tmp 29), none, [29], []⟩,
    ⟨some 35, .ext 1 (.tmp 29), none, [29], []⟩,
    ⟨some 36, .foff 3 (.tmp 4), none, [4], []⟩,
    ⟨none, .store 1 (.tmp 36) (.tmp 34), none, [36, 34], []⟩,
    ⟨some 37, .foff 0 (.tmp 4), none, [4], []⟩,
    ⟨none, .store 1 (.tmp 37) (.tmp 35), none, [37, 35], []⟩] [4])
(.reg false [⟨some 38, .foff 3 (.tmp 4), none, [4], []⟩,
    ⟨some 39, .load false 1 (.tmp 38), none, [38], []⟩,
    ⟨some 40, .len false (.tmp 39), none, [39], []⟩,
    ⟨some 41, .foff 1 (.tmp 4), none, [4], []⟩,
    ⟨none, .store 1 (.tmp 41) (.tmp 40), none, [41, 40], []⟩] [4]))
(.seq (.reg false [⟨some 43, .bin .eql (.tmp 7) (.const (.int .i64 (11))), none, [7], []⟩,
    ⟨some 42, .mv (.tmp 43), none, [43], []⟩] [2, 3, 4, 42])
(.cond (.tmp 42)
(.seq (.reg false [⟨some 5, .mv (.const (.bool false)), none, [], []⟩] [2, 3, 4])
(.seq (.reg false [⟨some 45, .load true 2 (.tmp 2), none, [2], []⟩,
    ⟨some 46, .foff 1 (.tmp 3), none, [3], []⟩,
    ⟨some 47, .load false 1 (.tmp 46), none, [46], []⟩,
    ⟨some 48, .call 29 [(.tmp 45), (.tmp 47)], none, [45, 47], []⟩,
    ⟨some 44, .mv (.tmp 48), none, [48], []⟩,
    ⟨some 49, .ext 0 (.tmp 44), none, [44], []⟩,
    ⟨some 50, .ext 1 (.tmp 44), none, [44], []⟩,
    ⟨some 51, .ext 2 (.tmp 44), none, [44], []⟩,
    ⟨some 52, .ext 3 (.tmp 44), none, [44], []⟩,
    ⟨some 53, .ext 4 (.tmp 44), none, [44], []⟩,
    ⟨some 5, .mv (.tmp 50), none, [50], []⟩,
    ⟨some 54, .foff 1 (.tmp 4), none, [4], []⟩,
    ⟨none, .store 1 (.tmp 54) (.tmp 51), none, [54, 51], []⟩,
    ⟨some 55, .foff 0 (.tmp 4), none, [4], []⟩,
    ⟨none, .store 1 (.tmp 55) (.tmp 53), none, [55, 53], []⟩] [4, 5])
(.seq (.reg false [⟨some 56, .foff 0 (.tmp 4), none, [4], []⟩,
    ⟨some 57, .load false 1 (.tmp 56), none, [56], []⟩,
    ⟨some 58, .bin .eql (.tmp 57) (.const (.int .i64 (0))), none, [57], []⟩] [4, 5, 58])
(.cond (.tmp 58)
(.seq (.reg false [⟨some 59, .bslice 5 1 1 [(.int .u8 (0))] [(0, 1, (.const (.int .u8 (0))))], none, [], []⟩,
    ⟨some 60, .foff 2 (.tmp 4), none, [4], []⟩,
    ⟨none, .store 1 (.tmp 60) (.tmp 59), none, [60, 59], []⟩] [4, 5])
(.seq (.reg false [⟨some 61, .mv (.tmp 5), none, [5], []⟩] [4, 61])
(.cond (.tmp 61)
(.reg false [⟨some 62, .foff 2 (.tmp 4), none, [4], []⟩,
    ⟨some 63, .load false 1 (.tmp 62), none, [62], []⟩,
    ⟨some 64, .idx 1 (.tmp 63) (.const (.int .i64 (0))), none, [63], []⟩,
    ⟨some 65, .load false 1 (.tmp 64), none, [64], []⟩,
    ⟨some 66, .bin .add (.tmp 65) (.const (.int .u8 (1))), none, [65], []⟩,
    ⟨some 67, .idx 1 (.tmp 63) (.const (.int .i64 (0))), none, [63], []⟩,
    ⟨none, .store 1 (.tmp 67) (.tmp 66), none, [67, 66], []⟩] [4])
.skip)))
.skip))))
.skip))))))))
(.seq (.reg false [⟨some 68, .load true 4 (.tmp 4), none, [4], []⟩,
    ⟨none, .store 4 (.tmp 4) (.tmp 68), none, [4, 68], []⟩] [4])
.ret)))
theorem ok_90 : FnOk Tryz.prog 90 69 ac_90 [.cell 4 true 4] := ⟨Tryz.f90, Tryz.func90, by kernel_rfl, by kernel_rfl, by kernel_rfl, by kernel_rfl, by kernel_rfl⟩
def ac_95 : AC :=
(.seq (.reg false [⟨some 4, .mv (.const (.bool false)), none, [], []⟩] [0, 1])
(.seq (.seq (.reg false [⟨some 6, .mv (.tmp 0), none, [0], []⟩,
    ⟨some 7, .len false (.tmp 6), none, [6], []⟩,
    ⟨some 8, .mv (.tmp 1), none, [1], []⟩,
    ⟨some 9, .len false (.tmp 8), none, [8], []⟩,
    ⟨some 10, .bin .neq (.tmp 7) (.tmp 9), none, [7, 9], []⟩] [0, 1, 10])
(.cond (.tmp 10)
(.seq (.reg false [⟨some 4, .mv (.const (.bool false)), none, [], []⟩] [4])
.ret)
.skip))
(.seq (.seq (.reg false [⟨some 5, .mv (.const (.int .i64 (0))), none, [], []⟩] [0, 1, 5])
(.block 0 (.loop (.seq (.seq (.reg false [⟨some 11, .mv (.tmp 5), none, [5], []⟩,
    ⟨some 12, .mv (.tmp 0), none, [0], []⟩,
    ⟨some 13, .len false (.tmp 12), none, [12], []⟩,
    ⟨some 14, .bin .lss (.tmp 11) (.tmp 13), none, [11, 13], []⟩] [0, 1, 5, 14])
(.cond (.tmp 14)
.skip
(.exit 0)))
(.seq (.block 1 (.seq (.reg true [⟨some 17, .mv (.tmp 0), none, [0], []⟩,
    ⟨some 18, .mv (.tmp 5), none, [5], []⟩,
    ⟨some 19, .idx 1 (.tmp 17) (.tmp 18), none, [17, 18], [0, 1]⟩,
    ⟨some 20, .load false 1 (.tmp 19), none, [19], [2, 0, 1]⟩,
    ⟨some 21, .mv (.tmp 1), none, [1], []⟩,
    ⟨some 22, .mv (.tmp 5), none, [5], []⟩,
    ⟨some 23, .idx 1 (.tmp 21) (.tmp 22), none, [21, 22], [4, 5]⟩,
    ⟨some 24, .load false 1 (.tmp 23), none, [23], [6, 4, 5]⟩,
    ⟨some 25, .bin .neq (.tmp 20) (.tmp 24), none, [20, 24], [3, 7, 2, 0, 1, 6, 4, 5]⟩] [0, 1, 5, 25])
(.cond (.tmp 25)
(.seq (.reg false [⟨some 4, .mv (.const (.bool false)), none, [], []⟩] [4])
.ret)
.skip)))
(.reg false [⟨some 15, .mv (.tmp 5), none, [5], []⟩,
    ⟨some 16, .bin .add (.tmp 15) (.const (.int .i64 (1))), none, [15], []⟩,
    ⟨some 5, .mv (.tmp 16), none, [16], []⟩] [0, 1, 5]))))))
(.seq (.reg false [⟨some 4, .mv (.const (.bool true)), none, [], []⟩] [4])
.ret))))
theorem ok_95 : FnOk Tryz.prog 95 26 ac_95 [.tmp 4] := ⟨Tryz.f95, Tryz.func95, by kernel_rfl, by kernel_rfl, by kernel_rfl, by kernel_rfl, by kernel_rfl⟩
def ac_96 : AC :=
(.seq (.reg false [⟨some 1, .box 154 (.tmp 0), none, [0], []⟩,
    ⟨some 2, .mv (.const (.slice none 0 0)), none, [], []⟩,
    ⟨some 3, .mv (.const (.int .i64 (0))), none, [], []⟩] [1])
(.seq (.seq (.reg false [⟨some 10, .load true 3 (.tmp 1), none, [1], []⟩,
    ⟨some 11, .call 148 [(.tmp 10)], none, [10], []⟩,
    ⟨some 4, .mv (.tmp 11), none, [11], []⟩] [1, 4])
(.seq (.reg false [⟨some 12, .mv (.tmp 4), none, [4], []⟩,
    ⟨some 13, .bin .neq (.tmp 12) (.const (.int .i64 (0))), none, [12], []⟩] [1, 4, 13])
(.cond (.tmp 13)
(.seq (.reg false [⟨some 14, .mv (.tmp 4), none, [4], []⟩,
    ⟨some 2, .mv (.const (.slice none 0 0)), none, [], []⟩,
    ⟨some 3, .mv (.tmp 14), none, [14], []⟩] [2, 3])
.ret)
.skip)))
(.seq (.reg false [⟨some 15, .foff 0 (.tmp 1), none, [1], []⟩,
    ⟨some 16, .load false 1 (.tmp 15), none, [15], []⟩,
    ⟨some 17, .conv .u8 (.tmp 16), none, [16], []⟩,
    ⟨some 18, .foff 1 (.tmp 1), none, [1], []⟩,
    ⟨some 19, .load false 1 (.tmp 18), none, [18], []⟩,
    ⟨some 20, .len false (.tmp 19), none, [19], []⟩,
    ⟨some 21, .conv .u8 (.tmp 20), none, [20], []⟩,
    ⟨some 22, .bslice 5 1 2 [(.int .u8 (0)), (.int .u8 (0))] [(0, 1, (.tmp 17)), (1, 1, (.tmp 21))], none, [17, 21], []⟩,
    ⟨some 5, .mv (.tmp 22), none, [22], []⟩] [1, 5])
(.seq (.seq (.reg false [⟨some 23, .foff 1 (.tmp 1), none, [1], []⟩,
    ⟨some 24, .load false 1 (.tmp 23), none, [23], []⟩,
    ⟨some 25, .len false (.tmp 24), none, [24], []⟩,
    ⟨some 26, .mv (.const (.int .i64 (0))), none, [], []⟩] [1, 5, 24, 25, 26])
(.block 0 (.loop (.seq (.reg false [⟨some 27, .bin .lss (.tmp 26) (.tmp 25), none, [26, 25], []⟩] [1, 5, 24, 25, 26, 27])
(.seq (.cond (.tmp 27)
.skip
(.exit 0))
(.seq (.block 1 (.seq (.reg false [⟨some 28, .idx 1 (.tmp 24) (.tmp 26), none, [24, 26], []⟩,
    ⟨some 29, .load false 1 (.tmp 28), none, [28], []⟩,
    ⟨some 7, .mv (.tmp 29), none, [29], []⟩] [1, 5, 7, 24, 25, 26])
(.reg false [⟨some 30, .mv (.tmp 5), none, [5], []⟩,
    ⟨some 31, .mv (.tmp 7), none, [7], []⟩,
    ⟨some 32, .bin .shl (.tmp 31) (.const (.int .u64 (1))), none, [31], []⟩,
    ⟨some 33, .mv (.tmp 7), none, [7], []⟩,
    ⟨some 34, .bin .shr (.tmp 33) (.const (.int .u64 (63))), none, [33], []⟩,
    ⟨some 35, .bin .xor (.tmp 32) (.tmp 34), none, [32, 34], []⟩,
    ⟨some 36, .conv .u64 (.tmp 35), none, [35], []⟩,
    ⟨some 37, .call 149 [(.tmp 30), (.tmp 36)], none, [30, 36], []⟩,
    ⟨some 5, .mv (.tmp 37), none, [37], []⟩] [1, 5, 24, 25, 26])))
(.reg false [⟨some 38, .bin .add (.tmp 26) (.const (.int .i64 (1))), none, [26], []⟩,
    ⟨some 26, .mv (.tmp 38), none, [38], []⟩] [1, 5, 24, 25, 26])))))))
(.seq (.reg false [⟨some 39, .mv (.tmp 5), none, [5], []⟩,
    ⟨some 40, .foff 2 (.tmp 1), none, [1], []⟩,
    ⟨some 41, .load false 1 (.tmp 40), none, [40], []⟩,
    ⟨some 42, .len false (.tmp 41), none, [41], []⟩,
    ⟨some 43, .conv .u8 (.tmp 42), none, [42], []⟩,
    ⟨some 44, .bslice 5 1 1 [(.int .u8 (0))] [(0, 1, (.tmp 43))], none, [43], []⟩,
    ⟨some 45, .append 5 1 1 (.tmp 39) (.tmp 44), none, [39, 44], []⟩,
    ⟨some 5, .mv (.tmp 45), none, [45], []⟩] [1, 5])
(.seq (.seq (.reg false [⟨some 46, .foff 2 (.tmp 1), none, [1], []⟩,
    ⟨some 47, .load false 1 (.tmp 46), none, [46], []⟩,
    ⟨some 48, .len false (.tmp 47), none, [47], []⟩,
    ⟨some 49, .mv (.const (.int .i64 (0))), none, [], []⟩] [5, 47, 48, 49])
(.block 2 (.loop (.seq (.reg false [⟨some 50, .bin .lss (.tmp 49) (.tmp 48), none, [49, 48], []⟩] [5, 47, 48, 49, 50])
(.seq (.cond (.tmp 50)
.skip
(.exit 2))
(.seq (.block 3 (.seq (.reg false [⟨some 51, .idx 1 (.tmp 47) (.tmp 49), none, [47, 49], []⟩,
    ⟨some 52, .load false 1 (.tmp 51), none, [51], []⟩,
    ⟨some 9, .mv (.tmp 52), none, [52], []⟩] [5, 9, 47, 48, 49])
(.reg false [⟨some 53, .mv (.tmp 5), none, [5], []⟩,
    ⟨some 54, .mv (.tmp 9), none, [9], []⟩,
    ⟨some 55, .len false (.tmp 54), none, [54], []⟩,
    ⟨some 56, .conv .u64 (.tmp 55), none, [55], []⟩,
    ⟨some 57, .call 149 [(.tmp 53), (.tmp 56)], none, [53, 56], []⟩,
    ⟨some 58, .mv (.tmp 9), none, [9], []⟩,
    ⟨some 59, .append 5 1 1 (.tmp 57) (.tmp 58), none, [57, 58], []⟩,
    ⟨some 5, .mv (.tmp 59), none, [59], []⟩] [5, 47, 48, 49])))
(.reg false [⟨some 60, .bin .add (.tmp 49) (.const (.int .i64 (1))), none, [49], []⟩,
    ⟨some 49, .mv (.tmp 60), none, [60], []⟩] [5, 47, 48, 49])))))))
(.seq (.reg false [⟨some 61, .mv (.tmp 5), none, [5], []⟩,
    ⟨some 62, .call 150 [(.tmp 61)], none, [61], []⟩,
    ⟨some 2, .mv (.tmp 62), none, [62], []⟩,
    ⟨some 3, .mv (.const (.int .i64 (0))), none, [], []⟩] [2, 3])
.ret)))))))
theorem ok_96 : FnOk Tryz.prog 96 63 ac_96 [.tmp 2, .tmp 3] := ⟨Tryz.f96, Tryz.func96, by kernel_rfl, by kernel_rfl, by kernel_rfl, by kernel_rfl, by kernel_rfl⟩
def ac_98 : AC :=
(.seq (.reg false [⟨some 2, .new 154 [(.int .i64 (0)), (.slice none 0 0), (.slice none 0 0)], none, [], []⟩,
    ⟨some 3, .mv (.const (.int .i64 (0))), none, [], []⟩] [0, 2])
(.seq (.reg false [⟨some 9, .mv (.tmp 0), none, [0], []⟩,
    ⟨some 10, .call 155 [(.tmp 9)], none, [9], []⟩,
    ⟨some 8, .mv (.tmp 10), none, [10], []⟩,
    ⟨some 11, .ext 0 (.tmp 8), none, [8], []⟩,
    ⟨some 12, .ext 1 (.tmp 8), none, [8], []⟩,
    ⟨some 4, .mv (.tmp 11), none, [11], []⟩,
    ⟨some 5, .mv (.tmp 12), none, [12], []⟩] [2, 4, 5])
(.seq (.seq (.reg false [⟨some 13, .mv (.tmp 5), none, [5], []⟩,
    ⟨some 14, .bin .neq (.tmp 13) (.const (.int .i64 (0))), none, [13], []⟩] [2, 4, 5, 14])
(.cond (.tmp 14)
(.seq (.reg false [⟨some 15, .build [(.int .i64 (0)), (.slice none 0 0), (.slice none 0 0)] [], none, [], []⟩,
    ⟨some 16, .mv (.tmp 5), none, [5], []⟩,
    ⟨none, .store 3 (.tmp 2) (.tmp 15), none, [2, 15], []⟩,
    ⟨some 3, .mv (.tmp 16), none, [16], []⟩] [2, 3])
.ret)
.skip))
(.seq (.reg false [⟨some 18, .mv (.tmp 4), none, [4], []⟩,
    ⟨some 19, .build [(.slice none 0 0)] [(0, 1, (.tmp 18))], none, [18], []⟩,
    ⟨some 20, .box 232 (.tmp 19), none, [19], []⟩,
    ⟨some 21, .call 156 [(.tmp 20)], none, [20], []⟩,
    ⟨some 17, .mv (.tmp 21), none, [21], []⟩,
    ⟨some 22, .ext 0 (.tmp 17), none, [17], []⟩,
    ⟨some 23, .ext 1 (.tmp 17), none, [17], []⟩,
    ⟨some 6, .new 154 [(.int .i64 (0)), (.slice none 0 0), (.slice none 0 0)], none, [], []⟩,
    ⟨none, .store 3 (.tmp 6) (.tmp 22), none, [6, 22], []⟩,
    ⟨some 7, .mv (.tmp 23), none, [23], []⟩] [2, 6, 7])
(.seq (.seq (.reg false [⟨some 24, .mv (.tmp 7), none, [7], []⟩,
    ⟨some 25, .isnil true .nilIface (.tmp 24), none, [24], []⟩] [2, 6, 7, 25])
(.cond (.tmp 25)
(.seq (.reg false [⟨some 26, .build [(.int .i64 (0)), (.slice none 0 0), (.slice none 0 0)] [], none, [], []⟩,
    ⟨some 27, .mv (.tmp 7), none, [7], []⟩,
    ⟨some 28, .call 157 [(.tmp 27)], none, [27], []⟩,
    ⟨none, .store 3 (.tmp 2) (.tmp 26), none, [2, 26], []⟩,
    ⟨some 3, .mv (.tmp 28), none, [28], []⟩] [2, 3])
.ret)
.skip))
(.seq (.reg false [⟨some 29, .load true 3 (.tmp 6), none, [6], []⟩,
    ⟨none, .store 3 (.tmp 2) (.tmp 29), none, [2, 29], []⟩,
    ⟨some 3, .mv (.const (.int .i64 (0))), none, [], []⟩] [2, 3])
.ret))))))
theorem ok_98 : FnOk Tryz.prog 98 30 ac_98 [.cell 2 true 3, .tmp 3] := ⟨Tryz.f98, Tryz.func98, by kernel_rfl, by kernel_rfl, by kernel_rfl, by kernel_rfl, by kernel_rfl⟩
def ac_100 : AC :=
(.seq (.reg false [⟨some 4, .mv (.const (.bool false)), none, [], []⟩] [0, 1])
(.seq (.reg false [⟨some 5, .mv (.tmp 0), none, [0], []⟩,
    ⟨some 6, .mv (.tmp 1), none, [1], []⟩,
    ⟨some 7, .call 164 [(.tmp 5), (.tmp 6)], none, [5, 6], []⟩,
    ⟨some 8, .bin .geq (.tmp 7) (.const (.int .i64 (0))), none, [7], []⟩,
    ⟨some 4, .mv (.tmp 8), none, [8], []⟩] [4])
.ret))
theorem ok_100 : FnOk Tryz.prog 100 9 ac_100 [.tmp 4] := ⟨Tryz.f100, Tryz.func100, by kernel_rfl, by kernel_rfl, by kernel_rfl, by kernel_rfl, by kernel_rfl⟩
def ac_101 : AC :=
(.seq (.reg false [⟨some 2, .mv (.const (.bool false)), none, [], []⟩] [0])
(.seq (.reg false [⟨some 3, .mv (.tmp 0), none, [0], []⟩,
    ⟨some 4, .len true (.tmp 3), none, [3], []⟩,
    ⟨some 5, .bin .gtr (.tmp 4) (.const (.int .i64 (255))), none, [4], []⟩,
    ⟨some 2, .mv (.tmp 5), none, [5], []⟩] [2])
.ret))
theorem ok_101 : FnOk Tryz.prog 101 6 ac_101 [.tmp 2] := ⟨Tryz.f101, Tryz.func101, by kernel_rfl, by kernel_rfl, by kernel_rfl, by kernel_rfl, by kernel_rfl⟩
def ac_107 : AC :=
(.seq (.reg false [⟨some 4, .mv (.const (.bool false)), none, [], []⟩] [0, 1])
(.seq (.reg false [⟨some 5, .mv (.tmp 0), none, [0], []⟩,
    ⟨some 6, .b2s (.tmp 5), none, [5], []⟩,
    ⟨some 7, .mv (.tmp 1), none, [1], []⟩,
    ⟨some 8, .b2s (.tmp 7), none, [7], []⟩,
    ⟨some 9, .bin .eql (.tmp 6) (.tmp 8), none, [6, 8], []⟩,
    ⟨some 4, .mv (.tmp 9), none, [9], []⟩] [4])
.ret))
theorem ok_107 : FnOk Tryz.prog 107 10 ac_107 [.tmp 4] := ⟨Tryz.f107, Tryz.func107, by kernel_rfl, by kernel_rfl, by kernel_rfl, by kernel_rfl, by kernel_rfl⟩
def ac_108 : AC :=
(.seq (.reg false [⟨some 2, .mv (.const (.slice none 0 0)), none, [], []⟩] [0])
(.seq (.seq (.reg false [⟨some 3, .mv (.tmp 0), none, [0], []⟩,
    ⟨some 4, .isnil false (.slice none 0 0) (.tmp 3), none, [3], []⟩] [0, 4])
(.cond (.tmp 4)
(.seq (.reg false [⟨some 2, .mv (.const (.slice none 0 0)), none, [], []⟩] [2])
.ret)
.skip))
(.seq (.reg false [⟨some 5, .bslice 5 1 0 [] [], none, [], []⟩,
    ⟨some 6, .mv (.tmp 0), none, [0], []⟩,
    ⟨some 7, .append 5 1 1 (.tmp 5) (.tmp 6), none, [5, 6], []⟩,
    ⟨some 2, .mv (.tmp 7), none, [7], []⟩] [2])
.ret)))
theorem ok_108 : FnOk Tryz.prog 108 8 ac_108 [.tmp 2] := ⟨Tryz.f108, Tryz.func108, by kernel_rfl, by kernel_rfl, by kernel_rfl, by kernel_rfl, by kernel_rfl⟩
def ac_110 : AC :=
(.seq (.reg false [⟨some 2, .mv (.const (.slice none 0 0)), none, [], []⟩,
    ⟨some 3, .mv (.const (.int .i64 (0))), none, [], []⟩] [0])
(.seq (.seq (.reg false [⟨some 9, .mv (.tmp 0), none, [0], []⟩,
    ⟨some 10, .len true (.tmp 9), none, [9], []⟩,
    ⟨some 11, .bin .gtr (.tmp 10) (.const (.int .i64 (128))), none, [10], []⟩] [0, 11])
(.cond (.tmp 11)
(.seq (.reg false [⟨some 2, .mv (.const (.slice none 0 0)), none, [], []⟩,
    ⟨some 3, .mv (.const (.int .i64 (5))), none, [], []⟩] [2, 3])
.ret)
.skip))
(.seq (.reg false [⟨some 13, .mv (.tmp 0), none, [0], []⟩,
    ⟨some 14, .call 168 [(.tmp 13), (.const (.string (ByteArray.mk #[47])))], none, [13], []⟩,
    ⟨some 12, .mv (.tmp 14), none, [14], []⟩,
    ⟨some 15, .ext 0 (.tmp 12), none, [12], []⟩,
    ⟨some 16, .ext 1 (.tmp 12), none, [12], []⟩,
    ⟨some 4, .mv (.tmp 15), none, [15], []⟩,
    ⟨some 5, .mv (.tmp 16), none, [16], []⟩] [4, 5])
(.seq (.seq (.reg false [⟨some 17, .mv (.tmp 5), none, [5], []⟩,
    ⟨some 18, .un .not (.tmp 17), none, [17], []⟩] [4, 18])
(.cond (.tmp 18)
(.seq (.reg false [⟨some 2, .mv (.const (.slice none 0 0)), none, [], []⟩,
    ⟨some 3, .mv (.const (.int .i64 (106))), none, [], []⟩] [2, 3])
.ret)
.skip))
(.seq (.reg false [⟨some 6, .new 45 [(.slice none 0 0)], none, [], []⟩] [4, 6])
(.seq (.seq (.reg false [⟨some 19, .mv (.tmp 4), none, [4], []⟩,
    ⟨some 20, .call 169 [(.tmp 19), (.const (.string (ByteArray.mk #[47])))], none, [19], []⟩] [6, 20])
(.block 0 (.rfunc (.tmp 20) [21] [(7, (.tmp 21))]
(.block 1 (.seq (.reg false [⟨some 22, .mv (.tmp 7), none, [7], []⟩,
    ⟨some 23, .bin .neq (.tmp 22) (.const (.string (ByteArray.mk #[]))), none, [22], []⟩] [6, 7, 23])
(.cond (.tmp 23)
(.reg false [⟨some 24, .load false 1 (.tmp 6), none, [6], []⟩,
    ⟨some 25, .mv (.tmp 7), none, [7], []⟩,
    ⟨some 26, .bslice 9 1 1 [(.string (ByteArray.mk #[]))] [(0, 1, (.tmp 25))], none, [25], []⟩,
    ⟨some 27, .append 9 1 16 (.tmp 24) (.tmp 26), none, [24, 26], []⟩,
    ⟨none, .store 1 (.tmp 6) (.tmp 27), none, [6, 27], []⟩] [])
.skip))))))
(.seq (.seq (.reg false [⟨some 28, .load false 1 (.tmp 6), none, [6], []⟩,
    ⟨some 29, .call 170 [(.tmp 28)], none, [28], []⟩,
    ⟨some 8, .mv (.tmp 29), none, [29], []⟩] [6, 8])
(.seq (.reg false [⟨some 30, .mv (.tmp 8), none, [8], []⟩,
    ⟨some 31, .bin .neq (.tmp 30) (.const (.int .i64 (0))), none, [30], []⟩] [6, 8, 31])
(.cond (.tmp 31)
(.seq (.reg false [⟨some 32, .mv (.tmp 8), none, [8], []⟩,
    ⟨some 2, .mv (.const (.slice none 0 0)), none, [], []⟩,
    ⟨some 3, .mv (.tmp 32), none, [32], []⟩] [2, 3])
.ret)
.skip)))
(.seq (.reg false [⟨some 33, .load false 1 (.tmp 6), none, [6], []⟩,
    ⟨some 2, .mv (.tmp 33), none, [33], []⟩,
    ⟨some 3, .mv (.const (.int .i64 (0))), none, [], []⟩] [2, 3])
.ret))))))))
theorem ok_110 : FnOk Tryz.prog 110 34 ac_110 [.tmp 2, .tmp 3] := ⟨Tryz.f110, Tryz.func110, by kernel_rfl, by kernel_rfl, by kernel_rfl, by kernel_rfl, by kernel_rfl⟩
def ac_114 : AC :=
(.seq (.reg false [⟨some 4, .mv (.const .nilIface), none, [], []⟩] [0, 1])
(.seq (.seq (.reg false [⟨some 5, .mv (.tmp 1), none, [1], []⟩,
    ⟨some 6, .isnil false .nilIface (.tmp 5), none, [5], []⟩] [0, 1, 6])
(.cond (.tmp 6)
(.seq (.reg false [⟨some 4, .mv (.const .nilIface), none, [], []⟩] [4])
.ret)
.skip))
(.seq (.reg false [⟨some 7, .mv (.tmp 0), none, [0], []⟩,
    ⟨some 8, .mv (.tmp 1), none, [1], []⟩,
    ⟨some 9, .build [(.string (ByteArray.mk #[])), .nilIface] [(0, 1, (.tmp 7)), (1, 1, (.tmp 8))], none, [7, 8], []⟩,
    ⟨some 10, .mkif 268 (.tmp 9), none, [9], []⟩,
    ⟨some 4, .mv (.tmp 10), none, [10], []⟩] [4])
.ret)))
theorem ok_114 : FnOk Tryz.prog 114 11 ac_114 [.tmp 4] := ⟨Tryz.f114, Tryz.func114, by kernel_rfl, by kernel_rfl, by kernel_rfl, by kernel_rfl, by kernel_rfl⟩
def ac_115 : AC :=
(.seq (.reg false [⟨some 4, .mv (.const (.int .i64 (0))), none, [], []⟩,
    ⟨some 5, .mv (.const .nilIface), none, [], []⟩] [0, 1])
(.seq (.reg false [⟨some 6, .mv (.const (.int .i64 (1))), none, [], []⟩] [0, 1, 6])
(.seq (.seq (.reg false [⟨some 13, .mv (.tmp 1), none, [1], []⟩,
    ⟨some 14, .len false (.tmp 13), none, [13], []⟩,
    ⟨some 15, .mv (.const (.int .i64 (0))), none, [], []⟩] [0, 6, 13, 14, 15])
(.block 0 (.loop (.seq (.reg false [⟨some 16, .bin .lss (.tmp 15) (.tmp 14), none, [15, 14], []⟩] [0, 6, 13, 14, 15, 16])
(.seq (.cond (.tmp 16)
.skip
(.exit 0))
(.seq (.block 1 (.seq (.reg false [⟨some 17, .idx 1 (.tmp 13) (.tmp 15), none, [13, 15], []⟩,
    ⟨some 18, .load false 1 (.tmp 17), none, [17], []⟩,
    ⟨some 8, .mv (.tmp 18), none, [18], []⟩] [0, 6, 8, 13, 14, 15])
(.seq (.reg false [⟨some 19, .mv (.tmp 0), none, [0], []⟩,
    ⟨some 20, .mv (.tmp 6), none, [6], []⟩,
    ⟨some 21, .call 116 [(.tmp 19), (.tmp 20)], none, [19, 20], []⟩,
    ⟨some 9, .mv (.tmp 21), none, [21], []⟩] [0, 8, 9, 13, 14, 15])
(.seq (.seq (.reg false [⟨some 22, .mv (.tmp 9), none, [9], []⟩,
    ⟨some 23, .nilc (.tmp 22), none, [22], []⟩,
    ⟨some 24, .foff 1 (.tmp 23), none, [23], []⟩,
    ⟨some 25, .load false 1 (.tmp 24), none, [24], []⟩,
    ⟨some 26, .un .not (.tmp 25), none, [25], []⟩] [0, 8, 9, 13, 14, 15, 26])
(.cond (.tmp 26)
(.seq (.reg false [⟨some 27, .mv (.tmp 8), none, [8], []⟩,
    ⟨some 28, .call 77 [(.const (.int .i64 (103))), (.tmp 27)], none, [27], []⟩,
    ⟨some 4, .mv (.const (.int .i64 (0))), none, [], []⟩,
    ⟨some 5, .mv (.tmp 28), none, [28], []⟩] [4, 5])
.ret)
.skip))
(.seq (.reg false [⟨some 30, .mv (.tmp 9), none, [9], []⟩,
    ⟨some 31, .nilc (.tmp 30), none, [30], []⟩,
    ⟨some 32, .foff 3 (.tmp 31), none, [31], []⟩,
    ⟨some 33, .load false 1 (.tmp 32), none, [32], []⟩,
    ⟨some 34, .mv (.tmp 8), none, [8], []⟩,
    ⟨some 35, .call 172 [(.tmp 33), (.tmp 34)], none, [33, 34], []⟩,
    ⟨some 29, .mv (.tmp 35), none, [35], []⟩,
    ⟨some 36, .ext 0 (.tmp 29), none, [29], []⟩,
    ⟨some 37, .ext 1 (.tmp 29), none, [29], []⟩,
    ⟨some 38, .ext 2 (.tmp 29), none, [29], []⟩,
    ⟨some 10, .mv (.tmp 36), none, [36], []⟩,
    ⟨some 11, .mv (.tmp 37), none, [37], []⟩,
    ⟨some 12, .mv (.tmp 38), none, [38], []⟩] [0, 8, 10, 11, 13, 14, 15])
(.seq (.seq (.reg false [⟨some 39, .mv (.tmp 11), none, [11], []⟩,
    ⟨some 40, .un .not (.tmp 39), none, [39], []⟩] [0, 8, 10, 13, 14, 15, 40])
(.cond (.tmp 40)
(.seq (.reg false [⟨some 41, .mv (.tmp 8), none, [8], []⟩,
    ⟨some 42, .call 77 [(.const (.int .i64 (101))), (.tmp 41)], none, [41], []⟩,
    ⟨some 4, .mv (.const (.int .i64 (0))), none, [], []⟩,
    ⟨some 5, .mv (.tmp 42), none, [42], []⟩] [4, 5])
.ret)
.skip))
(.reg false [⟨some 43, .mv (.tmp 10), none, [10], []⟩,
    ⟨some 6, .mv (.tmp 43), none, [43], []⟩] [0, 6, 13, 14, 15])))))))
(.reg false [⟨some 44, .bin .add (.tmp 15) (.const (.int .i64 (1))), none, [15], []⟩,
    ⟨some 15, .mv (.tmp 44), none, [44], []⟩] [0, 6, 13, 14, 15])))))))
(.seq (.reg false [⟨some 45, .mv (.tmp 6), none, [6], []⟩,
    ⟨some 4, .mv (.tmp 45), none, [45], []⟩,
    ⟨some 5, .mv (.const .nilIface), none, [], []⟩] [4, 5])
.ret))))
theorem ok_115 : FnOk Tryz.prog 115 46 ac_115 [.tmp 4, .tmp 5] := ⟨Tryz.f115, Tryz.func115, by kernel_rfl, by kernel_rfl, by kernel_rfl, by kernel_rfl, by kernel_rfl⟩
def ac_116 : AC :=
(.seq (.reg false [⟨some 4, .mv (.const (.pointer none)), none, [], []⟩] [0, 1])
(.seq (.reg false [⟨some 8, .mv (.tmp 0), none, [0], []⟩,
    ⟨some 9, .mv (.tmp 1), none, [1], []⟩,
    ⟨some 10, .call 174 [(.tmp 8), (.tmp 9)], none, [8, 9], []⟩,
    ⟨some 7, .mv (.tmp 10), none, [10], []⟩,
    ⟨some 11, .ext 0 (.tmp 7), none, [7], []⟩,
    ⟨some 12, .ext 1 (.tmp 7), none, [7], []⟩,
    ⟨some 5, .mv (.tmp 11), none, [11], []⟩,
    ⟨some 6, .mv (.tmp 12), none, [12], []⟩] [0, 5])
(.seq (.reg false [⟨some 13, .mv (.tmp 0), none, [0], []⟩,
    ⟨some 14, .nilc (.tmp 13), none, [13], []⟩,
    ⟨some 15, .foff 0 (.tmp 14), none, [14], []⟩,
    ⟨some 16, .load false 1 (.tmp 15), none, [15], []⟩,
    ⟨some 17, .mv (.tmp 5), none, [5], []⟩,
    ⟨some 18, .idx 6 (.tmp 16) (.tmp 17), none, [16, 17], []⟩,
    ⟨some 4, .mv (.tmp 18), none, [18], []⟩] [4])
.ret)))
theorem ok_116 : FnOk Tryz.prog 116 19 ac_116 [.tmp 4] := ⟨Tryz.f116, Tryz.func116, by kernel_rfl, by kernel_rfl, by kernel_rfl, by kernel_rfl, by kernel_rfl⟩
def ac_118 : AC :=
(.seq (.reg false [⟨some 1, .box 115 (.tmp 0), none, [0], []⟩,
    ⟨some 2, .mv (.const (.int .i64 (0))), none, [], []⟩] [1])
(.seq (.reg false [⟨some 11, .foff 0 (.tmp 1), none, [1], []⟩,
    ⟨some 12, .load false 1 (.tmp 11), none, [11], []⟩,
    ⟨some 13, .call 176 [(.tmp 12)], none, [12], []⟩,
    ⟨some 10, .mv (.tmp 13), none, [13], []⟩,
    ⟨some 14, .ext 0 (.tmp 10), none, [10], []⟩,
    ⟨some 15, .ext 1 (.tmp 10), none, [10], []⟩,
    ⟨some 16, .ext 2 (.tmp 10), none, [10], []⟩,
    ⟨some 3, .mv (.tmp 14), none, [14], []⟩,
    ⟨some 4, .mv (.tmp 15), none, [15], []⟩,
    ⟨some 5, .mv (.tmp 16), none, [16], []⟩] [1, 3, 5])
(.seq (.seq (.reg false [⟨some 17, .mv (.tmp 5), none, [5], []⟩,
    ⟨some 18, .bin .neq (.tmp 17) (.const (.int .i64 (0))), none, [17], []⟩] [1, 3, 18])
(.cond (.tmp 18)
(.seq (.reg false [⟨some 2, .mv (.const (.int .i64 (9))), none, [], []⟩] [2])
.ret)
.skip))
(.seq (.reg false [⟨some 6, .mv (.const (.int .i64 (-1))), none, [], []⟩] [1, 3, 6])
(.seq (.seq (.reg false [⟨some 19, .foff 1 (.tmp 1), none, [1], []⟩,
    ⟨some 20, .load false 1 (.tmp 19), none, [19], []⟩,
    ⟨some 21, .len false (.tmp 20), none, [20], []⟩,
    ⟨some 22, .mv (.const (.int .i64 (0))), none, [], []⟩] [1, 3, 6, 20, 21, 22])
(.block 0 (.loop (.seq (.reg false [⟨some 23, .bin .lss (.tmp 22) (.tmp 21), none, [22, 21], []⟩] [1, 3, 6, 20, 21, 22, 23])
(.seq (.cond (.tmp 23)
.skip
(.exit 0))
(.seq (.block 1 (.seq (.reg false [⟨some 24, .idx 2 (.tmp 20) (.tmp 22), none, [20, 22], []⟩,
    ⟨some 25, .load true 2 (.tmp 24), none, [24], []⟩,
    ⟨some 8, .new 183 [(.int .i64 (0)), (.slice none 0 0)], none, [], []⟩,
    ⟨none, .store 2 (.tmp 8) (.tmp 25), none, [8, 25], []⟩] [1, 3, 6, 8, 20, 21, 22])
(.seq (.seq (.reg false [⟨some 26, .foff 0 (.tmp 8), none, [8], []⟩,
    ⟨some 27, .load false 1 (.tmp 26), none, [26], []⟩,
    ⟨some 28, .mv (.tmp 6), none, [6], []⟩,
    ⟨some 29, .bin .leq (.tmp 27) (.tmp 28), none, [27, 28], []⟩,
    ⟨some 30, .mv (.tmp 29), none, [29], []⟩,
    ⟨some 31, .foff 0 (.tmp 8), some (30, false), [8, 30], []⟩,
    ⟨some 32, .load false 1 (.tmp 31), some (30, false), [31, 30], []⟩,
    ⟨some 33, .mv (.tmp 3), some (30, false), [3, 30], []⟩,
    ⟨some 34, .bin .geq (.tmp 32) (.tmp 33), some (30, false), [32, 33, 30], []⟩,
    ⟨some 35, .pick (.tmp 30) (.const (.bool true)) (.tmp 34), none, [30, 34], []⟩,
    ⟨some 36, .mv (.tmp 35), none, [35], []⟩,
    ⟨some 37, .foff 1 (.tmp 8), some (36, false), [8, 36], []⟩,
    ⟨some 38, .load false 1 (.tmp 37), some (36, false), [37, 36], []⟩,
    ⟨some 39, .len false (.tmp 38), some (36, false), [38, 36], []⟩,
    ⟨some 40, .bin .neq (.tmp 39) (.const (.int .i64 (32))), some (36, false), [39, 36], []⟩,
    ⟨some 41, .pick (.tmp 36) (.const (.bool true)) (.tmp 40), none, [36, 40], []⟩,
    ⟨some 42, .mv (.tmp 41), none, [41], []⟩,
    ⟨some 43, .foff 1 (.tmp 8), some (42, false), [8, 42], []⟩,
    ⟨some 44, .load false 1 (.tmp 43), some (42, false), [43, 42], []⟩,
    ⟨some 45, .call 177 [(.tmp 44)], some (42, false), [44, 42], []⟩,
    ⟨some 46, .pick (.tmp 42) (.const (.bool true)) (.tmp 45), none, [42, 45], []⟩] [1, 3, 8, 20, 21, 22, 46])
(.cond (.tmp 46)
(.seq (.reg false [⟨some 2, .mv (.const (.int .i64 (9))), none, [], []⟩] [2])
.ret)
.skip))
(.seq (.reg false [⟨some 47, .foff 0 (.tmp 8), none, [8], []⟩,
    ⟨some 48, .load false 1 (.tmp 47), none, [47], []⟩,
    ⟨some 6, .mv (.tmp 48), none, [48], []⟩] [1, 3, 6, 8, 20, 21, 22])
(.seq (.reg false [⟨some 49, .foff 0 (.tmp 1), none, [1], []⟩,
    ⟨some 50, .load false 1 (.tmp 49), none, [49], []⟩,
    ⟨some 51, .foff 0 (.tmp 8), none, [8], []⟩,
    ⟨some 52, .load false 1 (.tmp 51), none, [51], []⟩,
    ⟨some 53, .bin .mul (.const (.int .i64 (32))) (.tmp 52), none, [52], []⟩,
    ⟨some 54, .bin .sub (.tmp 50) (.tmp 53), none, [50, 53], []⟩,
    ⟨some 9, .mv (.tmp 54), none, [54], []⟩] [1, 3, 6, 8, 9, 20, 21, 22])
(.seq (.reg false [⟨some 55, .mv (.tmp 9), none, [9], []⟩,
    ⟨some 56, .bin .lss (.tmp 55) (.const (.int .i64 (32))), none, [55], []⟩,
    ⟨some 57, .mv (.tmp 56), none, [56], []⟩,
    ⟨some 58, .foff 1 (.tmp 8), some (57, true), [8, 57], []⟩,
    ⟨some 59, .load false 1 (.tmp 58), some (57, true), [58, 57], []⟩,
    ⟨some 60, .mv (.tmp 9), some (57, true), [9, 57], []⟩,
    ⟨some 61, .slice 1 (.tmp 59) (some (.tmp 60)) none, some (57, true), [59, 60, 57], []⟩,
    ⟨some 62, .call 177 [(.tmp 61)], some (57, true), [61, 57], []⟩,
    ⟨some 63, .un .not (.tmp 62), some (57, true), [62, 57], []⟩,
    ⟨some 64, .pick (.tmp 57) (.tmp 63) (.const (.bool false)), none, [57, 63], []⟩] [1, 3, 6, 20, 21, 22, 64])
(.cond (.tmp 64)
(.seq (.reg false [⟨some 2, .mv (.const (.int .i64 (9))), none, [], []⟩] [2])
.ret)
.skip)))))))
(.reg false [⟨some 65, .bin .add (.tmp 22) (.const (.int .i64 (1))), none, [22], []⟩,
    ⟨some 22, .mv (.tmp 65), none, [65], []⟩] [1, 3, 6, 20, 21, 22])))))))
(.seq (.reg false [⟨some 2, .mv (.const (.int .i64 (0))), none, [], []⟩] [2])
.ret))))))
theorem ok_118 : FnOk Tryz.prog 118 66 ac_118 [.tmp 2] := ⟨Tryz.f118, Tryz.func118, by kernel_rfl, by kernel_rfl, by kernel_rfl, by kernel_rfl, by kernel_rfl⟩
end Go.Proofs.YtonglhkiobibgaaGreatDoor
namespace Go.Proofs.YtonglhkiobibgaaGreatDoor
set_option maxRecDepth 100000
def ac_127 : AC :=
(.seq (.reg false [⟨some 2, .mv (.const (.bool false)), none, [], []⟩] [0])
(.seq (.reg false [⟨some 3, .mv (.tmp 0), none, [0], []⟩,
    ⟨some 4, .mv (.tmp 0), none, [0], []⟩,
    ⟨some 5, .bin .neq (.tmp 3) (.tmp 4), none, [3, 4], []⟩,
    ⟨some 2, .mv (.tmp 5), none, [5], []⟩] [2])
.ret))
theorem ok_127 : FnOk Tryz.prog 127 6 ac_127 [.tmp 2] := ⟨Tryz.f127, Tryz.func127, by kernel_rfl, by kernel_rfl, by kernel_rfl, by kernel_rfl, by kernel_rfl⟩
def ac_128 : AC :=
(.seq (.reg false [⟨some 2, .mv (.const (.int .i64 (0))), none, [], []⟩] [0])
(.seq (.seq (.reg false [⟨some 5, .mv (.tmp 0), none, [0], []⟩,
    ⟨some 6, .len false (.tmp 5), none, [5], []⟩,
    ⟨some 7, .bin .gtr (.tmp 6) (.const (.int .i64 (63))), none, [6], []⟩] [0, 7])
(.cond (.tmp 7)
(.seq (.reg false [⟨some 2, .mv (.const (.int .i64 (9))), none, [], []⟩] [2])
.ret)
.skip))
(.seq (.seq (.reg false [⟨some 8, .mv (.tmp 0), none, [0], []⟩,
    ⟨some 9, .len false (.tmp 8), none, [8], []⟩,
    ⟨some 10, .mv (.const (.int .i64 (0))), none, [], []⟩] [0, 8, 9, 10])
(.block 0 (.loop (.seq (.reg false [⟨some 11, .bin .lss (.tmp 10) (.tmp 9), none, [10, 9], []⟩] [0, 8, 9, 10, 11])
(.seq (.cond (.tmp 11)
.skip
(.exit 0))
(.seq (.block 1 (.seq (.reg false [⟨some 12, .mv (.tmp 10), none, [10], []⟩,
    ⟨some 13, .idx 2 (.tmp 8) (.tmp 10), none, [8, 10], []⟩,
    ⟨some 14, .load true 2 (.tmp 13), none, [13], []⟩,
    ⟨some 4, .new 134 [(.string (ByteArray.mk #[])), (.int .i64 (0))], none, [], []⟩,
    ⟨some 3, .mv (.tmp 12), none, [12], []⟩,
    ⟨none, .store 2 (.tmp 4) (.tmp 14), none, [4, 14], []⟩] [0, 3, 4, 8, 9, 10])
(.seq (.reg true [⟨some 15, .load true 2 (.tmp 4), none, [4], []⟩,
    ⟨some 16, .call 186 [(.tmp 15)], none, [15], [0]⟩,
    ⟨some 17, .un .not (.tmp 16), none, [16], [1, 0]⟩,
    ⟨some 18, .mv (.tmp 17), none, [17], [2, 1, 0]⟩,
    ⟨some 19, .mv (.tmp 3), some (18, false), [3, 18], [3, 2, 1, 0]⟩,
    ⟨some 20, .bin .gtr (.tmp 19) (.const (.int .i64 (0))), some (18, false), [19, 18], [4, 3, 2, 1, 0]⟩,
    ⟨some 21, .mv (.tmp 20), some (18, false), [20, 18], [5, 3, 4, 2, 1, 0]⟩,
    ⟨some 22, .mv (.tmp 0), some (21, true), [0, 21], [6, 5, 3, 4, 2, 1, 0]⟩,
    ⟨some 23, .mv (.tmp 3), some (21, true), [3, 21], [6, 5, 3, 4, 2, 1, 0]⟩,
    ⟨some 24, .bin .sub (.tmp 23) (.const (.int .i64 (1))), some (21, true), [23, 21], [8, 6, 5, 3, 4, 2, 1, 0]⟩,
    ⟨some 25, .idx 2 (.tmp 22) (.tmp 24), some (21, true), [22, 24, 21], [7, 9, 6, 5, 3, 4, 2, 1, 0, 8]⟩,
    ⟨some 26, .foff 0 (.tmp 25), some (21, true), [25, 21], [10, 6, 7, 9, 5, 3, 4, 2, 1, 0, 8]⟩,
    ⟨some 27, .load false 1 (.tmp 26), some (21, true), [26, 21], [11, 6, 10, 7, 9, 5, 3, 4, 2, 1, 0, 8]⟩,
    ⟨some 28, .foff 0 (.tmp 4), some (21, true), [4, 21], [6, 5, 3, 4, 2, 1, 0]⟩,
    ⟨some 29, .load false 1 (.tmp 28), some (21, true), [28, 21], [13, 6, 5, 3, 4, 2, 1, 0]⟩,
    ⟨some 30, .bin .geq (.tmp 27) (.tmp 29), some (21, true), [27, 29, 21], [12, 14, 6, 11, 10, 7, 9, 5, 3, 4, 2, 1, 0, 8, 13]⟩,
    ⟨some 31, .pick (.tmp 21) (.tmp 30) (.const (.bool false)), some (18, false), [21, 30, 18], [6, 15, 3, 5, 4, 2, 1, 0, 12, 14, 11, 10, 7, 9, 8, 13]⟩,
    ⟨some 32, .pick (.tmp 18) (.const (.bool true)) (.tmp 31), none, [18, 31], [3, 16, 2, 1, 0, 6, 15, 5, 4, 12, 14, 11, 10, 7, 9, 8, 13]⟩] [0, 8, 9, 10, 32])
(.cond (.tmp 32)
(.seq (.reg false [⟨some 2, .mv (.const (.int .i64 (9))), none, [], []⟩] [2])
.ret)
.skip))))
(.reg false [⟨some 33, .bin .add (.tmp 10) (.const (.int .i64 (1))), none, [10], []⟩,
    ⟨some 10, .mv (.tmp 33), none, [33], []⟩] [0, 8, 9, 10])))))))
(.seq (.reg false [⟨some 2, .mv (.const (.int .i64 (0))), none, [], []⟩] [2])
.ret))))
theorem ok_128 : FnOk Tryz.prog 128 34 ac_128 [.tmp 2] := ⟨Tryz.f128, Tryz.func128, by kernel_rfl, by kernel_rfl, by kernel_rfl, by kernel_rfl, by kernel_rfl⟩
def ac_129 : AC :=
(.seq (.reg false [⟨some 2, .mv (.const (.slice none 0 0)), none, [], []⟩] [0])
(.seq (.seq (.reg false [⟨some 3, .mv (.tmp 0), none, [0], []⟩,
    ⟨some 4, .isnil false (.slice none 0 0) (.tmp 3), none, [3], []⟩] [0, 4])
(.cond (.tmp 4)
(.seq (.reg false [⟨some 2, .mv (.const (.slice none 0 0)), none, [], []⟩] [2])
.ret)
.skip))
(.seq (.reg false [⟨some 5, .bslice 118 6 0 [] [], none, [], []⟩,
    ⟨some 6, .mv (.tmp 0), none, [0], []⟩,
    ⟨some 7, .append 118 6 80 (.tmp 5) (.tmp 6), none, [5, 6], []⟩,
    ⟨some 2, .mv (.tmp 7), none, [7], []⟩] [2])
.ret)))
theorem ok_129 : FnOk Tryz.prog 129 8 ac_129 [.tmp 2] := ⟨Tryz.f129, Tryz.func129, by kernel_rfl, by kernel_rfl, by kernel_rfl, by kernel_rfl, by kernel_rfl⟩
def ac_130 : AC :=
(.seq (.reg false [⟨some 2, .mv (.const (.slice none 0 0)), none, [], []⟩] [0])
(.seq (.seq (.reg false [⟨some 3, .mv (.tmp 0), none, [0], []⟩,
    ⟨some 4, .isnil false (.slice none 0 0) (.tmp 3), none, [3], []⟩] [0, 4])
(.cond (.tmp 4)
(.seq (.reg false [⟨some 2, .mv (.const (.slice none 0 0)), none, [], []⟩] [2])
.ret)
.skip))
(.seq (.reg false [⟨some 5, .bslice 134 2 0 [] [], none, [], []⟩,
    ⟨some 6, .mv (.tmp 0), none, [0], []⟩,
    ⟨some 7, .append 134 2 24 (.tmp 5) (.tmp 6), none, [5, 6], []⟩,
    ⟨some 2, .mv (.tmp 7), none, [7], []⟩] [2])
.ret)))
theorem ok_130 : FnOk Tryz.prog 130 8 ac_130 [.tmp 2] := ⟨Tryz.f130, Tryz.func130, by kernel_rfl, by kernel_rfl, by kernel_rfl, by kernel_rfl, by kernel_rfl⟩
def ac_131 : AC :=
(.seq (.reg false [⟨some 2, .mv (.const (.slice none 0 0)), none, [], []⟩] [0])
(.seq (.seq (.reg false [⟨some 3, .mv (.tmp 0), none, [0], []⟩,
    ⟨some 4, .isnil false (.slice none 0 0) (.tmp 3), none, [3], []⟩] [0, 4])
(.cond (.tmp 4)
(.seq (.reg false [⟨some 2, .mv (.const (.slice none 0 0)), none, [], []⟩] [2])
.ret)
.skip))
(.seq (.reg false [⟨some 5, .bslice 183 2 0 [] [], none, [], []⟩,
    ⟨some 6, .mv (.tmp 0), none, [0], []⟩,
    ⟨some 7, .append 183 2 32 (.tmp 5) (.tmp 6), none, [5, 6], []⟩,
    ⟨some 2, .mv (.tmp 7), none, [7], []⟩] [2])
.ret)))
theorem ok_131 : FnOk Tryz.prog 131 8 ac_131 [.tmp 2] := ⟨Tryz.f131, Tryz.func131, by kernel_rfl, by kernel_rfl, by kernel_rfl, by kernel_rfl, by kernel_rfl⟩
def ac_148 : AC :=
(.seq (.reg false [⟨some 1, .box 154 (.tmp 0), none, [0], []⟩,
    ⟨some 2, .mv (.const (.int .i64 (0))), none, [], []⟩] [1])
(.seq (.seq (.reg false [⟨some 5, .foff 0 (.tmp 1), none, [1], []⟩,
    ⟨some 6, .load false 1 (.tmp 5), none, [5], []⟩,
    ⟨some 7, .bin .lss (.tmp 6) (.const (.int .i64 (0))), none, [6], []⟩,
    ⟨some 8, .mv (.tmp 7), none, [7], []⟩,
    ⟨some 9, .foff 0 (.tmp 1), some (8, false), [1, 8], []⟩,
    ⟨some 10, .load false 1 (.tmp 9), some (8, false), [9, 8], []⟩,
    ⟨some 11, .bin .gtr (.tmp 10) (.const (.int .i64 (255))), some (8, false), [10, 8], []⟩,
    ⟨some 12, .pick (.tmp 8) (.const (.bool true)) (.tmp 11), none, [8, 11], []⟩] [1, 12])
(.cond (.tmp 12)
(.seq (.reg false [⟨some 2, .mv (.const (.int .i64 (22))), none, [], []⟩] [2])
.ret)
.skip))
(.seq (.seq (.reg false [⟨some 13, .foff 1 (.tmp 1), none, [1], []⟩,
    ⟨some 14, .load false 1 (.tmp 13), none, [13], []⟩,
    ⟨some 15, .len false (.tmp 14), none, [14], []⟩,
    ⟨some 16, .bin .gtr (.tmp 15) (.const (.int .i64 (64))), none, [15], []⟩,
    ⟨some 17, .mv (.tmp 16), none, [16], []⟩,
    ⟨some 18, .foff 2 (.tmp 1), some (17, false), [1, 17], []⟩,
    ⟨some 19, .load false 1 (.tmp 18), some (17, false), [18, 17], []⟩,
    ⟨some 20, .len false (.tmp 19), some (17, false), [19, 17], []⟩,
    ⟨some 21, .bin .gtr (.tmp 20) (.const (.int .i64 (64))), some (17, false), [20, 17], []⟩,
    ⟨some 22, .pick (.tmp 17) (.const (.bool true)) (.tmp 21), none, [17, 21], []⟩] [1, 22])
(.cond (.tmp 22)
(.seq (.reg false [⟨some 2, .mv (.const (.int .i64 (3))), none, [], []⟩] [2])
.ret)
.skip))
(.seq (.seq (.reg false [⟨some 23, .foff 2 (.tmp 1), none, [1], []⟩,
    ⟨some 24, .load false 1 (.tmp 23), none, [23], []⟩,
    ⟨some 25, .len false (.tmp 24), none, [24], []⟩,
    ⟨some 26, .mv (.const (.int .i64 (0))), none, [], []⟩] [24, 25, 26])
(.block 0 (.loop (.seq (.reg false [⟨some 27, .bin .lss (.tmp 26) (.tmp 25), none, [26, 25], []⟩] [24, 25, 26, 27])
(.seq (.cond (.tmp 27)
.skip
(.exit 0))
(.seq (.block 1 (.seq (.reg false [⟨some 28, .idx 1 (.tmp 24) (.tmp 26), none, [24, 26], []⟩,
    ⟨some 29, .load false 1 (.tmp 28), none, [28], []⟩,
    ⟨some 4, .mv (.tmp 29), none, [29], []⟩] [4, 24, 25, 26])
(.seq (.reg false [⟨some 30, .mv (.tmp 4), none, [4], []⟩,
    ⟨some 31, .len false (.tmp 30), none, [30], []⟩,
    ⟨some 32, .bin .gtr (.tmp 31) (.const (.int .i64 (4096))), none, [31], []⟩] [24, 25, 26, 32])
(.cond (.tmp 32)
(.seq (.reg false [⟨some 2, .mv (.const (.int .i64 (5))), none, [], []⟩] [2])
.ret)
.skip))))
(.reg false [⟨some 33, .bin .add (.tmp 26) (.const (.int .i64 (1))), none, [26], []⟩,
    ⟨some 26, .mv (.tmp 33), none, [33], []⟩] [24, 25, 26])))))))
(.seq (.reg false [⟨some 2, .mv (.const (.int .i64 (0))), none, [], []⟩] [2])
.ret)))))
theorem ok_148 : FnOk Tryz.prog 148 34 ac_148 [.tmp 2] := ⟨Tryz.f148, Tryz.func148, by kernel_rfl, by kernel_rfl, by kernel_rfl, by kernel_rfl, by kernel_rfl⟩
def ac_149 : AC :=
(.seq (.reg false [⟨some 4, .mv (.const (.slice none 0 0)), none, [], []⟩] [0, 1])
(.seq (.block 0 (.loop (.seq (.seq (.reg false [⟨some 5, .mv (.tmp 1), none, [1], []⟩,
    ⟨some 6, .bin .gtr (.tmp 5) (.const (.int .u64 (127))), none, [5], []⟩] [0, 1, 6])
(.cond (.tmp 6)
.skip
(.exit 0)))
(.seq (.block 1 (.reg false [⟨some 9, .mv (.tmp 0), none, [0], []⟩,
    ⟨some 10, .mv (.tmp 1), none, [1], []⟩,
    ⟨some 11, .conv .u8 (.tmp 10), none, [10], []⟩,
    ⟨some 12, .bin .or (.tmp 11) (.const (.int .u8 (128))), none, [11], []⟩,
    ⟨some 13, .bslice 5 1 1 [(.int .u8 (0))] [(0, 1, (.tmp 12))], none, [12], []⟩,
    ⟨some 14, .append 5 1 1 (.tmp 9) (.tmp 13), none, [9, 13], []⟩,
    ⟨some 0, .mv (.tmp 14), none, [14], []⟩] [0, 1]))
(.reg false [⟨some 7, .mv (.tmp 1), none, [1], []⟩,
    ⟨some 8, .bin .shr (.tmp 7) (.const (.int .u64 (7))), none, [7], []⟩,
    ⟨some 1, .mv (.tmp 8), none, [8], []⟩] [0, 1])))))
(.seq (.reg false [⟨some 15, .mv (.tmp 0), none, [0], []⟩,
    ⟨some 16, .mv (.tmp 1), none, [1], []⟩,
    ⟨some 17, .conv .u8 (.tmp 16), none, [16], []⟩,
    ⟨some 18, .bslice 5 1 1 [(.int .u8 (0))] [(0, 1, (.tmp 17))], none, [17], []⟩,
    ⟨some 19, .append 5 1 1 (.tmp 15) (.tmp 18), none, [15, 18], []⟩,
    ⟨some 4, .mv (.tmp 19), none, [19], []⟩] [4])
.ret)))
theorem ok_149 : FnOk Tryz.prog 149 20 ac_149 [.tmp 4] := ⟨Tryz.f149, Tryz.func149, by kernel_rfl, by kernel_rfl, by kernel_rfl, by kernel_rfl, by kernel_rfl⟩
def ac_150 : AC :=
(.seq (.reg false [⟨some 2, .mv (.const (.slice none 0 0)), none, [], []⟩] [0])
(.seq (.reg false [⟨some 3, .mv (.tmp 0), none, [0], []⟩,
    ⟨some 4, .mv (.tmp 0), none, [0], []⟩,
    ⟨some 5, .call 208 [(.tmp 4)], none, [4], []⟩,
    ⟨some 6, .call 207 [(.tmp 5)], none, [5], []⟩,
    ⟨some 7, .bslice 37 1 2 [(.slice none 0 0), (.slice none 0 0)] [(0, 1, (.tmp 3)), (1, 1, (.tmp 6))], none, [3, 6], []⟩,
    ⟨some 8, .call 206 [(.tmp 7)], none, [7], []⟩,
    ⟨some 2, .mv (.tmp 8), none, [8], []⟩] [2])
.ret))
theorem ok_150 : FnOk Tryz.prog 150 9 ac_150 [.tmp 2] := ⟨Tryz.f150, Tryz.func150, by kernel_rfl, by kernel_rfl, by kernel_rfl, by kernel_rfl, by kernel_rfl⟩
def ac_155 : AC :=
(.seq (.reg false [⟨some 2, .mv (.const (.slice none 0 0)), none, [], []⟩,
    ⟨some 3, .mv (.const (.int .i64 (0))), none, [], []⟩] [0])
(.seq (.seq (.reg false [⟨some 6, .mv (.tmp 0), none, [0], []⟩,
    ⟨some 7, .len false (.tmp 6), none, [6], []⟩,
    ⟨some 8, .bin .lss (.tmp 7) (.const (.int .i64 (4))), none, [7], []⟩] [0, 8])
(.cond (.tmp 8)
(.seq (.reg false [⟨some 2, .mv (.const (.slice none 0 0)), none, [], []⟩,
    ⟨some 3, .mv (.const (.int .i64 (8))), none, [], []⟩] [2, 3])
.ret)
.skip))
(.seq (.reg true [⟨some 9, .mv (.tmp 0), none, [0], []⟩,
    ⟨some 10, .mv (.tmp 0), none, [0], []⟩,
    ⟨some 11, .len false (.tmp 10), none, [10], [1]⟩,
    ⟨some 12, .bin .sub (.tmp 11) (.const (.int .i64 (4))), none, [11], [2, 1]⟩,
    ⟨some 13, .slice 1 (.tmp 9) none (some (.tmp 12)), none, [9, 12], [0, 3, 2, 1]⟩,
    ⟨some 14, .mv (.tmp 0), none, [0], []⟩,
    ⟨some 15, .mv (.tmp 0), none, [0], []⟩,
    ⟨some 16, .len false (.tmp 15), none, [15], [6]⟩,
    ⟨some 17, .bin .sub (.tmp 16) (.const (.int .i64 (4))), none, [16], [7, 6]⟩,
    ⟨some 18, .slice 1 (.tmp 14) (some (.tmp 17)) none, none, [14, 17], [5, 8, 7, 6]⟩,
    ⟨some 4, .mv (.tmp 13), none, [13], [4, 0, 1, 2, 3]⟩,
    ⟨some 5, .mv (.tmp 18), none, [18], [9, 10, 0, 1, 2, 3, 4, 5, 6, 7, 8]⟩] [4, 5])
(.seq (.seq (.reg false [⟨some 19, .mv (.tmp 5), none, [5], []⟩,
    ⟨some 20, .mv (.tmp 4), none, [4], []⟩,
    ⟨some 21, .call 208 [(.tmp 20)], none, [20], []⟩,
    ⟨some 22, .call 207 [(.tmp 21)], none, [21], []⟩,
    ⟨some 23, .call 107 [(.tmp 19), (.tmp 22)], none, [19, 22], []⟩,
    ⟨some 24, .un .not (.tmp 23), none, [23], []⟩] [4, 24])
(.cond (.tmp 24)
(.seq (.reg false [⟨some 2, .mv (.const (.slice none 0 0)), none, [], []⟩,
    ⟨some 3, .mv (.const (.int .i64 (21))), none, [], []⟩] [2, 3])
.ret)
.skip))
(.seq (.reg false [⟨some 25, .mv (.tmp 4), none, [4], []⟩,
    ⟨some 26, .call 108 [(.tmp 25)], none, [25], []⟩,
    ⟨some 2, .mv (.tmp 26), none, [26], []⟩,
    ⟨some 3, .mv (.const (.int .i64 (0))), none, [], []⟩] [2, 3])
.ret)))))
theorem ok_155 : FnOk Tryz.prog 155 27 ac_155 [.tmp 2, .tmp 3] := ⟨Tryz.f155, Tryz.func155, by kernel_rfl, by kernel_rfl, by kernel_rfl, by kernel_rfl, by kernel_rfl⟩
def ac_156 : AC :=
(.seq (.reg false [⟨some 2, .new 154 [(.int .i64 (0)), (.slice none 0 0), (.slice none 0 0)], none, [], []⟩,
    ⟨some 3, .mv (.const .nilIface), none, [], []⟩] [0, 2])
(.seq (.seq (.reg false [⟨some 5, .mv (.tmp 0), none, [0], []⟩,
    ⟨some 6, .call 211 [(.tmp 5)], none, [5], []⟩,
    ⟨some 4, .mv (.tmp 6), none, [6], []⟩,
    ⟨some 7, .ext 0 (.tmp 4), none, [4], []⟩,
    ⟨some 8, .ext 1 (.tmp 4), none, [4], []⟩,
    ⟨some 9, .foff 0 (.tmp 2), none, [2], []⟩,
    ⟨none, .store 1 (.tmp 9) (.tmp 7), none, [9, 7], []⟩,
    ⟨some 3, .mv (.tmp 8), none, [8], []⟩] [0, 2, 3])
(.seq (.reg false [⟨some 10, .mv (.tmp 3), none, [3], []⟩,
    ⟨some 11, .isnil true .nilIface (.tmp 10), none, [10], []⟩] [0, 2, 3, 11])
(.cond (.tmp 11)
(.seq (.reg false [⟨some 12, .load true 3 (.tmp 2), none, [2], []⟩,
    ⟨some 13, .mv (.tmp 3), none, [3], []⟩,
    ⟨none, .store 3 (.tmp 2) (.tmp 12), none, [2, 12], []⟩,
    ⟨some 3, .mv (.tmp 13), none, [13], []⟩] [2, 3])
.ret)
.skip)))
(.seq (.seq (.reg false [⟨some 15, .mv (.tmp 0), none, [0], []⟩,
    ⟨some 16, .call 212 [(.tmp 15)], none, [15], []⟩,
    ⟨some 14, .mv (.tmp 16), none, [16], []⟩,
    ⟨some 17, .ext 0 (.tmp 14), none, [14], []⟩,
    ⟨some 18, .ext 1 (.tmp 14), none, [14], []⟩,
    ⟨some 19, .foff 1 (.tmp 2), none, [2], []⟩,
    ⟨none, .store 1 (.tmp 19) (.tmp 17), none, [19, 17], []⟩,
    ⟨some 3, .mv (.tmp 18), none, [18], []⟩] [0, 2, 3])
(.seq (.reg false [⟨some 20, .mv (.tmp 3), none, [3], []⟩,
    ⟨some 21, .isnil true .nilIface (.tmp 20), none, [20], []⟩] [0, 2, 3, 21])
(.cond (.tmp 21)
(.seq (.reg false [⟨some 22, .load true 3 (.tmp 2), none, [2], []⟩,
    ⟨some 23, .mv (.tmp 3), none, [3], []⟩,
    ⟨none, .store 3 (.tmp 2) (.tmp 22), none, [2, 22], []⟩,
    ⟨some 3, .mv (.tmp 23), none, [23], []⟩] [2, 3])
.ret)
.skip)))
(.seq (.seq (.reg false [⟨some 25, .mv (.tmp 0), none, [0], []⟩,
    ⟨some 26, .call 213 [(.tmp 25)], none, [25], []⟩,
    ⟨some 24, .mv (.tmp 26), none, [26], []⟩,
    ⟨some 27, .ext 0 (.tmp 24), none, [24], []⟩,
    ⟨some 28, .ext 1 (.tmp 24), none, [24], []⟩,
    ⟨some 29, .foff 2 (.tmp 2), none, [2], []⟩,
    ⟨none, .store 1 (.tmp 29) (.tmp 27), none, [29, 27], []⟩,
    ⟨some 3, .mv (.tmp 28), none, [28], []⟩] [0, 2, 3])
(.seq (.reg false [⟨some 30, .mv (.tmp 3), none, [3], []⟩,
    ⟨some 31, .isnil true .nilIface (.tmp 30), none, [30], []⟩] [0, 2, 3, 31])
(.cond (.tmp 31)
(.seq (.reg false [⟨some 32, .load true 3 (.tmp 2), none, [2], []⟩,
    ⟨some 33, .mv (.tmp 3), none, [3], []⟩,
    ⟨none, .store 3 (.tmp 2) (.tmp 32), none, [2, 32], []⟩,
    ⟨some 3, .mv (.tmp 33), none, [33], []⟩] [2, 3])
.ret)
.skip)))
(.seq (.seq (.reg false [⟨some 34, .mv (.tmp 0), none, [0], []⟩,
    ⟨some 35, .nilc (.tmp 34), none, [34], []⟩,
    ⟨some 36, .foff 0 (.tmp 35), none, [35], []⟩,
    ⟨some 37, .load false 1 (.tmp 36), none, [36], []⟩,
    ⟨some 38, .len false (.tmp 37), none, [37], []⟩,
    ⟨some 39, .bin .gtr (.tmp 38) (.const (.int .i64 (0))), none, [38], []⟩] [2, 3, 39])
(.cond (.tmp 39)
(.reg false [⟨some 40, .build [(.int .i64 (0))] [(0, 1, (.const (.int .i64 (23))))], none, [], []⟩,
    ⟨some 41, .mkif 323 (.tmp 40), none, [40], []⟩,
    ⟨some 3, .mv (.tmp 41), none, [41], []⟩] [2, 3])
.skip))
(.seq (.reg false [⟨some 42, .load true 3 (.tmp 2), none, [2], []⟩,
    ⟨some 43, .mv (.tmp 3), none, [3], []⟩,
    ⟨none, .store 3 (.tmp 2) (.tmp 42), none, [2, 42], []⟩,
    ⟨some 3, .mv (.tmp 43), none, [43], []⟩] [2, 3])
.ret))))))
theorem ok_156 : FnOk Tryz.prog 156 44 ac_156 [.cell 2 true 3, .tmp 3] := ⟨Tryz.f156, Tryz.func156, by kernel_rfl, by kernel_rfl, by kernel_rfl, by kernel_rfl, by kernel_rfl⟩
end Go.Proofs.YtonglhkiobibgaaGreatDoor
namespace Go.Proofs.YtonglhkiobibgaaGreatDoor
set_option maxRecDepth 100000
def ac_164 : AC :=
(.seq (.reg false [⟨some 4, .mv (.const (.int .i64 (0))), none, [], []⟩] [0, 1])
(.seq (.seq (.reg false [⟨some 6, .mv (.tmp 0), none, [0], []⟩,
    ⟨some 7, .len false (.tmp 6), none, [6], []⟩,
    ⟨some 8, .mv (.const (.int .i64 (0))), none, [], []⟩] [0, 1, 7, 8])
(.block 0 (.loop (.seq (.reg false [⟨some 9, .bin .lss (.tmp 8) (.tmp 7), none, [8, 7], []⟩] [0, 1, 7, 8, 9])
(.seq (.cond (.tmp 9)
.skip
(.exit 0))
(.seq (.block 1 (.seq (.reg false [⟨some 10, .mv (.tmp 8), none, [8], []⟩,
    ⟨some 5, .mv (.tmp 10), none, [10], []⟩] [0, 1, 5, 7, 8])
(.seq (.reg false [⟨some 11, .mv (.tmp 1), none, [1], []⟩,
    ⟨some 12, .mv (.tmp 0), none, [0], []⟩,
    ⟨some 13, .mv (.tmp 5), none, [5], []⟩,
    ⟨some 14, .idx 1 (.tmp 12) (.tmp 13), none, [12, 13], []⟩,
    ⟨some 15, .load false 1 (.tmp 14), none, [14], []⟩,
    ⟨some 16, .callv (.tmp 11) [(.tmp 15)], none, [11, 15], []⟩] [0, 1, 5, 7, 8, 16])
(.cond (.tmp 16)
(.seq (.reg false [⟨some 17, .mv (.tmp 5), none, [5], []⟩,
    ⟨some 4, .mv (.tmp 17), none, [17], []⟩] [4])
.ret)
.skip))))
(.reg false [⟨some 18, .bin .add (.tmp 8) (.const (.int .i64 (1))), none, [8], []⟩,
    ⟨some 8, .mv (.tmp 18), none, [18], []⟩] [0, 1, 7, 8])))))))
(.seq (.reg false [⟨some 4, .mv (.const (.int .i64 (-1))), none, [], []⟩] [4])
.ret)))
theorem ok_164 : FnOk Tryz.prog 164 19 ac_164 [.tmp 4] := ⟨Tryz.f164, Tryz.func164, by kernel_rfl, by kernel_rfl, by kernel_rfl, by kernel_rfl, by kernel_rfl⟩
def ac_168 : AC :=
(.seq (.reg false [⟨some 4, .mv (.const (.string (ByteArray.mk #[]))), none, [], []⟩,
    ⟨some 5, .mv (.const (.bool false)), none, [], []⟩] [0, 1])
(.seq (.reg false [⟨some 6, .mv (.tmp 0), none, [0], []⟩,
    ⟨some 7, .mv (.tmp 1), none, [1], []⟩,
    ⟨some 8, .call 217 [(.tmp 6), (.tmp 7)], none, [6, 7], []⟩,
    ⟨some 9, .ext 0 (.tmp 8), none, [8], []⟩,
    ⟨some 10, .ext 1 (.tmp 8), none, [8], []⟩,
    ⟨some 4, .mv (.tmp 9), none, [9], []⟩,
    ⟨some 5, .mv (.tmp 10), none, [10], []⟩] [4, 5])
.ret))
theorem ok_168 : FnOk Tryz.prog 168 11 ac_168 [.tmp 4, .tmp 5] := ⟨Tryz.f168, Tryz.func168, by kernel_rfl, by kernel_rfl, by kernel_rfl, by kernel_rfl, by kernel_rfl⟩
def ac_169 : AC :=
(.seq (.reg false [⟨some 4, .mv (.const .nilFunc), none, [], []⟩] [0, 1])
(.seq (.reg false [⟨some 5, .mv (.tmp 0), none, [0], []⟩,
    ⟨some 6, .mv (.tmp 1), none, [1], []⟩,
    ⟨some 7, .call 218 [(.tmp 5), (.tmp 6), (.const (.int .i64 (0)))], none, [5, 6], []⟩,
    ⟨some 4, .mv (.tmp 7), none, [7], []⟩] [4])
.ret))
theorem ok_169 : FnOk Tryz.prog 169 8 ac_169 [.tmp 4] := ⟨Tryz.f169, Tryz.func169, by kernel_rfl, by kernel_rfl, by kernel_rfl, by kernel_rfl, by kernel_rfl⟩
def ac_170 : AC :=
(.seq (.reg false [⟨some 2, .mv (.const (.int .i64 (0))), none, [], []⟩] [0])
(.seq (.seq (.reg false [⟨some 6, .mv (.tmp 0), none, [0], []⟩,
    ⟨some 7, .len false (.tmp 6), none, [6], []⟩,
    ⟨some 8, .mv (.const (.int .i64 (0))), none, [], []⟩] [0, 6, 7, 8])
(.block 0 (.loop (.seq (.reg false [⟨some 9, .bin .lss (.tmp 8) (.tmp 7), none, [8, 7], []⟩] [0, 6, 7, 8, 9])
(.seq (.cond (.tmp 9)
.skip
(.exit 0))
(.seq (.block 1 (.seq (.reg false [⟨some 10, .idx 1 (.tmp 6) (.tmp 8), none, [6, 8], []⟩,
    ⟨some 11, .load false 1 (.tmp 10), none, [10], []⟩,
    ⟨some 4, .mv (.tmp 11), none, [11], []⟩] [0, 4, 6, 7, 8])
(.seq (.reg false [⟨some 12, .mv (.tmp 4), none, [4], []⟩,
    ⟨some 13, .call 219 [(.tmp 12)], none, [12], []⟩,
    ⟨some 5, .mv (.tmp 13), none, [13], []⟩] [0, 5, 6, 7, 8])
(.seq (.reg false [⟨some 14, .mv (.tmp 5), none, [5], []⟩,
    ⟨some 15, .bin .neq (.tmp 14) (.const (.int .i64 (0))), none, [14], []⟩] [0, 5, 6, 7, 8, 15])
(.cond (.tmp 15)
(.seq (.reg false [⟨some 16, .mv (.tmp 5), none, [5], []⟩,
    ⟨some 2, .mv (.tmp 16), none, [16], []⟩] [2])
.ret)
.skip)))))
(.reg false [⟨some 17, .bin .add (.tmp 8) (.const (.int .i64 (1))), none, [8], []⟩,
    ⟨some 8, .mv (.tmp 17), none, [17], []⟩] [0, 6, 7, 8])))))))
(.seq (.seq (.reg false [⟨some 18, .mv (.tmp 0), none, [0], []⟩,
    ⟨some 19, .len false (.tmp 18), none, [18], []⟩,
    ⟨some 20, .bin .gtr (.tmp 19) (.const (.int .i64 (8))), none, [19], []⟩] [20])
(.cond (.tmp 20)
(.seq (.reg false [⟨some 2, .mv (.const (.int .i64 (5))), none, [], []⟩] [2])
.ret)
.skip))
(.seq (.reg false [⟨some 2, .mv (.const (.int .i64 (0))), none, [], []⟩] [2])
.ret))))
theorem ok_170 : FnOk Tryz.prog 170 21 ac_170 [.tmp 2] := ⟨Tryz.f170, Tryz.func170, by kernel_rfl, by kernel_rfl, by kernel_rfl, by kernel_rfl, by kernel_rfl⟩
def ac_172 : AC :=
(.seq (.reg false [⟨some 4, .mv (.const (.int .i64 (0))), none, [], []⟩,
    ⟨some 5, .mv (.const (.bool false)), none, [], []⟩,
    ⟨some 6, .mv (.const (.int .i64 (0))), none, [], []⟩] [0, 1])
(.seq (.seq (.reg false [⟨some 10, .mv (.tmp 0), none, [0], []⟩,
    ⟨some 11, .call 128 [(.tmp 10)], none, [10], []⟩,
    ⟨some 7, .mv (.tmp 11), none, [11], []⟩] [0, 1, 7])
(.seq (.reg false [⟨some 12, .mv (.tmp 7), none, [7], []⟩,
    ⟨some 13, .bin .neq (.tmp 12) (.const (.int .i64 (0))), none, [12], []⟩] [0, 1, 7, 13])
(.cond (.tmp 13)
(.seq (.reg false [⟨some 14, .mv (.tmp 7), none, [7], []⟩,
    ⟨some 4, .mv (.const (.int .i64 (0))), none, [], []⟩,
    ⟨some 5, .mv (.const (.bool false)), none, [], []⟩,
    ⟨some 6, .mv (.tmp 14), none, [14], []⟩] [4, 5, 6])
.ret)
.skip)))
(.seq (.reg false [⟨some 16, .mv (.tmp 0), none, [0], []⟩,
    ⟨some 17, .mv (.tmp 1), none, [1], []⟩,
    ⟨some 18, .call 221 [(.tmp 16), (.tmp 17)], none, [16, 17], []⟩,
    ⟨some 15, .mv (.tmp 18), none, [18], []⟩,
    ⟨some 19, .ext 0 (.tmp 15), none, [15], []⟩,
    ⟨some 20, .ext 1 (.tmp 15), none, [15], []⟩,
    ⟨some 8, .mv (.tmp 19), none, [19], []⟩,
    ⟨some 9, .mv (.tmp 20), none, [20], []⟩] [0, 8, 9])
(.seq (.seq (.reg false [⟨some 21, .mv (.tmp 9), none, [9], []⟩,
    ⟨some 22, .un .not (.tmp 21), none, [21], []⟩] [0, 8, 22])
(.cond (.tmp 22)
(.seq (.reg false [⟨some 4, .mv (.const (.int .i64 (0))), none, [], []⟩,
    ⟨some 5, .mv (.const (.bool false)), none, [], []⟩,
    ⟨some 6, .mv (.const (.int .i64 (0))), none, [], []⟩] [4, 5, 6])
.ret)
.skip))
(.seq (.reg false [⟨some 23, .mv (.tmp 0), none, [0], []⟩,
    ⟨some 24, .mv (.tmp 8), none, [8], []⟩,
    ⟨some 25, .idx 2 (.tmp 23) (.tmp 24), none, [23, 24], []⟩,
    ⟨some 26, .foff 1 (.tmp 25), none, [25], []⟩,
    ⟨some 27, .load false 1 (.tmp 26), none, [26], []⟩,
    ⟨some 4, .mv (.tmp 27), none, [27], []⟩,
    ⟨some 5, .mv (.const (.bool true)), none, [], []⟩,
    ⟨some 6, .mv (.const (.int .i64 (0))), none, [], []⟩] [4, 5, 6])
.ret)))))
theorem ok_172 : FnOk Tryz.prog 172 28 ac_172 [.tmp 4, .tmp 5, .tmp 6] := ⟨Tryz.f172, Tryz.func172, by kernel_rfl, by kernel_rfl, by kernel_rfl, by kernel_rfl, by kernel_rfl⟩
def ac_174 : AC :=
(.seq (.reg false [⟨some 4, .mv (.const (.int .i64 (0))), none, [], []⟩,
    ⟨some 5, .mv (.const (.bool false)), none, [], []⟩] [0, 1])
(.seq (.reg false [⟨some 6, .mv (.tmp 0), none, [0], []⟩,
    ⟨some 7, .nilc (.tmp 6), none, [6], []⟩,
    ⟨some 8, .foff 0 (.tmp 7), none, [7], []⟩,
    ⟨some 9, .load false 1 (.tmp 8), none, [8], []⟩,
    ⟨some 10, .mv (.tmp 1), none, [1], []⟩,
    ⟨some 11, .call 83 [(.tmp 9), (.tmp 10), (.func 223)], none, [9, 10], []⟩,
    ⟨some 12, .ext 0 (.tmp 11), none, [11], []⟩,
    ⟨some 13, .ext 1 (.tmp 11), none, [11], []⟩,
    ⟨some 4, .mv (.tmp 12), none, [12], []⟩,
    ⟨some 5, .mv (.tmp 13), none, [13], []⟩] [4, 5])
.ret))
theorem ok_174 : FnOk Tryz.prog 174 14 ac_174 [.tmp 4, .tmp 5] := ⟨Tryz.f174, Tryz.func174, by kernel_rfl, by kernel_rfl, by kernel_rfl, by kernel_rfl, by kernel_rfl⟩
def ac_176 : AC :=
(.seq (.reg false [⟨some 2, .mv (.const (.int .i64 (0))), none, [], []⟩,
    ⟨some 3, .mv (.const (.int .i64 (0))), none, [], []⟩,
    ⟨some 4, .mv (.const (.int .i64 (0))), none, [], []⟩] [0])
(.seq (.seq (.reg false [⟨some 7, .mv (.tmp 0), none, [0], []⟩,
    ⟨some 8, .bin .lss (.tmp 7) (.const (.int .i64 (0))), none, [7], []⟩] [0, 8])
(.cond (.tmp 8)
(.seq (.reg false [⟨some 2, .mv (.const (.int .i64 (0))), none, [], []⟩,
    ⟨some 3, .mv (.const (.int .i64 (0))), none, [], []⟩,
    ⟨some 4, .mv (.const (.int .i64 (4))), none, [], []⟩] [2, 3, 4])
.ret)
.skip))
(.seq (.seq (.reg false [⟨some 9, .mv (.tmp 0), none, [0], []⟩,
    ⟨some 10, .bin .gtr (.tmp 9) (.const (.int .i64 (2432))), none, [9], []⟩] [0, 10])
(.cond (.tmp 10)
(.seq (.reg false [⟨some 2, .mv (.const (.int .i64 (0))), none, [], []⟩,
    ⟨some 3, .mv (.const (.int .i64 (0))), none, [], []⟩,
    ⟨some 4, .mv (.const (.int .i64 (107))), none, [], []⟩] [2, 3, 4])
.ret)
.skip))
(.seq (.reg false [⟨some 11, .mv (.tmp 0), none, [0], []⟩,
    ⟨some 12, .call 180 [(.tmp 11), (.const (.int .i64 (32)))], none, [11], []⟩,
    ⟨some 5, .mv (.tmp 12), none, [12], []⟩,
    ⟨some 6, .mv (.const (.int .i64 (0))), none, [], []⟩] [5, 6])
(.seq (.block 0 (.seq (.block 2 (.seq (.block 1 (.seq (.seq (.seq (.reg false [⟨some 14, .mv (.tmp 5), none, [5], []⟩,
    ⟨some 15, .bin .gtr (.tmp 14) (.const (.int .i64 (12))), none, [14], []⟩,
    ⟨some 13, .mv (.tmp 15), none, [15], []⟩] [5, 6, 13])
(.cond (.tmp 13)
(.exit 1)
.skip))
(.seq (.reg false [⟨some 17, .mv (.tmp 5), none, [5], []⟩,
    ⟨some 18, .bin .gtr (.tmp 17) (.const (.int .i64 (4))), none, [17], []⟩,
    ⟨some 16, .mv (.tmp 18), none, [18], []⟩] [5, 6, 16])
(.cond (.tmp 16)
(.exit 2)
.skip)))
(.exit 0)))
(.reg false [⟨some 19, .mv (.tmp 5), none, [5], []⟩,
    ⟨some 20, .bin .sub (.tmp 19) (.const (.int .i64 (12))), none, [19], []⟩,
    ⟨some 21, .call 180 [(.tmp 20), (.const (.int .i64 (8)))], none, [20], []⟩,
    ⟨some 22, .bin .add (.const (.int .i64 (1))) (.tmp 21), none, [21], []⟩,
    ⟨some 6, .mv (.tmp 22), none, [22], []⟩] [5, 6])))
(.seq (.reg false [⟨some 23, .mv (.tmp 6), none, [6], []⟩,
    ⟨some 24, .bin .add (.tmp 23) (.const (.int .i64 (1))), none, [23], []⟩,
    ⟨some 6, .mv (.tmp 24), none, [24], []⟩] [5, 6])
(.exit 0))))
(.seq (.reg false [⟨some 25, .mv (.tmp 5), none, [5], []⟩,
    ⟨some 26, .mv (.tmp 6), none, [6], []⟩,
    ⟨some 2, .mv (.tmp 25), none, [25], []⟩,
    ⟨some 3, .mv (.tmp 26), none, [26], []⟩,
    ⟨some 4, .mv (.const (.int .i64 (0))), none, [], []⟩] [2, 3, 4])
.ret))))))
theorem ok_176 : FnOk Tryz.prog 176 27 ac_176 [.tmp 2, .tmp 3, .tmp 4] := ⟨Tryz.f176, Tryz.func176, by kernel_rfl, by kernel_rfl, by kernel_rfl, by kernel_rfl, by kernel_rfl⟩
def ac_177 : AC :=
(.seq (.reg false [⟨some 2, .mv (.const (.bool false)), none, [], []⟩] [0])
(.seq (.reg false [⟨some 3, .mv (.tmp 0), none, [0], []⟩,
    ⟨some 4, .call 224 [(.tmp 3), (.const (.string (ByteArray.mk #[0])))], none, [3], []⟩,
    ⟨some 5, .len false (.tmp 4), none, [4], []⟩,
    ⟨some 6, .bin .eql (.tmp 5) (.const (.int .i64 (0))), none, [5], []⟩,
    ⟨some 2, .mv (.tmp 6), none, [6], []⟩] [2])
.ret))
theorem ok_177 : FnOk Tryz.prog 177 7 ac_177 [.tmp 2] := ⟨Tryz.f177, Tryz.func177, by kernel_rfl, by kernel_rfl, by kernel_rfl, by kernel_rfl, by kernel_rfl⟩
def ac_180 : AC :=
(.seq (.reg false [⟨some 4, .mv (.const (.int .i64 (0))), none, [], []⟩] [0, 1])
(.seq (.reg false [⟨some 5, .mv (.tmp 0), none, [0], []⟩,
    ⟨some 6, .mv (.tmp 1), none, [1], []⟩,
    ⟨some 7, .bin .add (.tmp 5) (.tmp 6), none, [5, 6], []⟩,
    ⟨some 8, .bin .sub (.tmp 7) (.const (.int .i64 (1))), none, [7], []⟩,
    ⟨some 9, .mv (.tmp 1), none, [1], []⟩,
    ⟨some 10, .bin .quo (.tmp 8) (.tmp 9), none, [8, 9], []⟩,
    ⟨some 4, .mv (.tmp 10), none, [10], []⟩] [4])
.ret))
theorem ok_180 : FnOk Tryz.prog 180 11 ac_180 [.tmp 4] := ⟨Tryz.f180, Tryz.func180, by kernel_rfl, by kernel_rfl, by kernel_rfl, by kernel_rfl, by kernel_rfl⟩
def ac_186 : AC :=
(.seq (.reg false [⟨some 1, .box 134 (.tmp 0), none, [0], []⟩,
    ⟨some 2, .mv (.const (.bool false)), none, [], []⟩] [1])
(.seq (.reg false [⟨some 3, .foff 0 (.tmp 1), none, [1], []⟩,
    ⟨some 4, .load false 1 (.tmp 3), none, [3], []⟩,
    ⟨some 5, .call 219 [(.tmp 4)], none, [4], []⟩,
    ⟨some 6, .bin .eql (.tmp 5) (.const (.int .i64 (0))), none, [5], []⟩,
    ⟨some 7, .mv (.tmp 6), none, [6], []⟩,
    ⟨some 8, .foff 1 (.tmp 1), some (7, true), [1, 7], []⟩,
    ⟨some 9, .load false 1 (.tmp 8), some (7, true), [8, 7], []⟩,
    ⟨some 10, .bin .geq (.tmp 9) (.const (.int .i64 (1))), some (7, true), [9, 7], []⟩,
    ⟨some 11, .pick (.tmp 7) (.tmp 10) (.const (.bool false)), none, [7, 10], []⟩,
    ⟨some 12, .mv (.tmp 11), none, [11], []⟩,
    ⟨some 13, .foff 1 (.tmp 1), some (12, true), [1, 12], []⟩,
    ⟨some 14, .load false 1 (.tmp 13), some (12, true), [13, 12], []⟩,
    ⟨some 15, .bin .leq (.tmp 14) (.const (.int .i64 (2147483647))), some (12, true), [14, 12], []⟩,
    ⟨some 16, .pick (.tmp 12) (.tmp 15) (.const (.bool false)), none, [12, 15], []⟩,
    ⟨some 2, .mv (.tmp 16), none, [16], []⟩] [2])
.ret))
theorem ok_186 : FnOk Tryz.prog 186 17 ac_186 [.tmp 2] := ⟨Tryz.f186, Tryz.func186, by kernel_rfl, by kernel_rfl, by kernel_rfl, by kernel_rfl, by kernel_rfl⟩
end Go.Proofs.YtonglhkiobibgaaGreatDoor
namespace Go.Proofs.YtonglhkiobibgaaGreatDoor
set_option maxRecDepth 100000
def ac_206 : AC :=
(.seq (.reg false [⟨some 2, .mv (.const (.slice none 0 0)), none, [], []⟩] [0])
(.seq (.reg false [⟨some 3, .mv (.const (.int .i64 (0))), none, [], []⟩] [0, 3])
(.seq (.seq (.reg false [⟨some 9, .mv (.tmp 0), none, [0], []⟩,
    ⟨some 10, .len false (.tmp 9), none, [9], []⟩,
    ⟨some 11, .mv (.const (.int .i64 (0))), none, [], []⟩] [0, 3, 9, 10, 11])
(.block 0 (.loop (.seq (.reg false [⟨some 12, .bin .lss (.tmp 11) (.tmp 10), none, [11, 10], []⟩] [0, 3, 9, 10, 11, 12])
(.seq (.cond (.tmp 12)
.skip
(.exit 0))
(.seq (.block 1 (.seq (.reg false [⟨some 13, .idx 1 (.tmp 9) (.tmp 11), none, [9, 11], []⟩,
    ⟨some 14, .load false 1 (.tmp 13), none, [13], []⟩,
    ⟨some 5, .mv (.tmp 14), none, [14], []⟩] [0, 3, 5, 9, 10, 11])
(.seq (.reg false [⟨some 15, .mv (.tmp 3), none, [3], []⟩,
    ⟨some 16, .mv (.tmp 5), none, [5], []⟩,
    ⟨some 17, .len false (.tmp 16), none, [16], []⟩,
    ⟨some 18, .bin .add (.tmp 15) (.tmp 17), none, [15, 17], []⟩,
    ⟨some 3, .mv (.tmp 18), none, [18], []⟩] [0, 3, 9, 10, 11])
(.seq (.reg false [⟨some 19, .mv (.tmp 3), none, [3], []⟩,
    ⟨some 20, .bin .lss (.tmp 19) (.const (.int .i64 (0))), none, [19], []⟩] [0, 3, 9, 10, 11, 20])
(.cond (.tmp 20)
(.reg false [⟨some 21, .mkif 9 (.const (.string (ByteArray.mk #[108, 101, 110, 32, 111, 117, 116, 32, 111, 102, 32, 114, 97, 110, 103, 101]))), none, [], []⟩,
    ⟨none, .die , none, [21], []⟩] [0, 3, 9, 10, 11])
.skip)))))
(.reg false [⟨some 22, .bin .add (.tmp 11) (.const (.int .i64 (1))), none, [11], []⟩,
    ⟨some 11, .mv (.tmp 22), none, [22], []⟩] [0, 3, 9, 10, 11])))))))
(.seq (.reg false [⟨some 23, .mv (.tmp 3), none, [3], []⟩,
    ⟨some 24, .call 237 [(.const (.slice none 0 0)), (.tmp 23)], none, [23], []⟩,
    ⟨some 6, .mv (.tmp 24), none, [24], []⟩] [0, 6])
(.seq (.seq (.reg false [⟨some 25, .mv (.tmp 0), none, [0], []⟩,
    ⟨some 26, .len false (.tmp 25), none, [25], []⟩,
    ⟨some 27, .mv (.const (.int .i64 (0))), none, [], []⟩] [6, 25, 26, 27])
(.block 2 (.loop (.seq (.reg false [⟨some 28, .bin .lss (.tmp 27) (.tmp 26), none, [27, 26], []⟩] [6, 25, 26, 27, 28])
(.seq (.cond (.tmp 28)
.skip
(.exit 2))
(.seq (.block 3 (.seq (.reg false [⟨some 29, .idx 1 (.tmp 25) (.tmp 27), none, [25, 27], []⟩,
    ⟨some 30, .load false 1 (.tmp 29), none, [29], []⟩,
    ⟨some 8, .mv (.tmp 30), none, [30], []⟩] [6, 8, 25, 26, 27])
(.reg false [⟨some 31, .mv (.tmp 6), none, [6], []⟩,
    ⟨some 32, .mv (.tmp 8), none, [8], []⟩,
    ⟨some 33, .append 5 1 1 (.tmp 31) (.tmp 32), none, [31, 32], []⟩,
    ⟨some 6, .mv (.tmp 33), none, [33], []⟩] [6, 25, 26, 27])))
(.reg false [⟨some 34, .bin .add (.tmp 27) (.const (.int .i64 (1))), none, [27], []⟩,
    ⟨some 27, .mv (.tmp 34), none, [34], []⟩] [6, 25, 26, 27])))))))
(.seq (.reg false [⟨some 35, .mv (.tmp 6), none, [6], []⟩,
    ⟨some 2, .mv (.tmp 35), none, [35], []⟩] [2])
.ret))))))
theorem ok_206 : FnOk Tryz.prog 206 36 ac_206 [.tmp 2] := ⟨Tryz.f206, Tryz.func206, by kernel_rfl, by kernel_rfl, by kernel_rfl, by kernel_rfl, by kernel_rfl⟩
def ac_207 : AC :=
(.seq (.reg false [⟨some 2, .mv (.const (.slice none 0 0)), none, [], []⟩] [0])
(.seq (.reg false [⟨some 5, .mksl 5 1 1 [(.int .u8 (0))] (.const (.int .i64 (4))) (.const (.int .i64 (4))), none, [], []⟩,
    ⟨some 3, .mv (.tmp 5), none, [5], []⟩] [0, 3])
(.seq (.seq (.reg false [⟨some 6, .mv (.tmp 3), none, [3], []⟩,
    ⟨some 7, .len false (.tmp 6), none, [6], []⟩,
    ⟨some 8, .mv (.const (.int .i64 (0))), none, [], []⟩] [0, 3, 7, 8])
(.block 0 (.loop (.seq (.reg false [⟨some 9, .bin .lss (.tmp 8) (.tmp 7), none, [8, 7], []⟩] [0, 3, 7, 8, 9])
(.seq (.cond (.tmp 9)
.skip
(.exit 0))
(.seq (.block 1 (.seq (.reg false [⟨some 10, .mv (.tmp 8), none, [8], []⟩,
    ⟨some 4, .mv (.tmp 10), none, [10], []⟩] [0, 3, 4, 7, 8])
(.reg false [⟨some 11, .mv (.tmp 3), none, [3], []⟩,
    ⟨some 12, .mv (.tmp 4), none, [4], []⟩,
    ⟨some 13, .mv (.tmp 0), none, [0], []⟩,
    ⟨some 14, .mv (.tmp 4), none, [4], []⟩,
    ⟨some 15, .bin .mul (.const (.int .i64 (8))) (.tmp 14), none, [14], []⟩,
    ⟨some 16, .bin .shr (.tmp 13) (.tmp 15), none, [13, 15], []⟩,
    ⟨some 17, .conv .u8 (.tmp 16), none, [16], []⟩,
    ⟨some 18, .idx 1 (.tmp 11) (.tmp 12), none, [11, 12], []⟩,
    ⟨none, .store 1 (.tmp 18) (.tmp 17), none, [18, 17], []⟩] [0, 3, 7, 8])))
(.reg false [⟨some 19, .bin .add (.tmp 8) (.const (.int .i64 (1))), none, [8], []⟩,
    ⟨some 8, .mv (.tmp 19), none, [19], []⟩] [0, 3, 7, 8])))))))
(.seq (.reg false [⟨some 20, .mv (.tmp 3), none, [3], []⟩,
    ⟨some 2, .mv (.tmp 20), none, [20], []⟩] [2])
.ret))))
theorem ok_207 : FnOk Tryz.prog 207 21 ac_207 [.tmp 2] := ⟨Tryz.f207, Tryz.func207, by kernel_rfl, by kernel_rfl, by kernel_rfl, by kernel_rfl, by kernel_rfl⟩
def ac_208 : AC :=
(.seq (.reg false [⟨some 2, .mv (.const (.int .u32 (0))), none, [], []⟩] [0])
(.seq (.reg false [⟨some 3, .mv (.tmp 0), none, [0], []⟩,
    ⟨some 4, .call 238 [(.const (.int .u32 (0))), (.tmp 3)], none, [3], []⟩,
    ⟨some 2, .mv (.tmp 4), none, [4], []⟩] [2])
.ret))
theorem ok_208 : FnOk Tryz.prog 208 5 ac_208 [.tmp 2] := ⟨Tryz.f208, Tryz.func208, by kernel_rfl, by kernel_rfl, by kernel_rfl, by kernel_rfl, by kernel_rfl⟩
def ac_211 : AC :=
(.seq (.reg false [⟨some 2, .mv (.const (.int .i64 (0))), none, [], []⟩,
    ⟨some 3, .mv (.const .nilIface), none, [], []⟩] [0])
(.seq (.reg false [⟨some 7, .mv (.tmp 0), none, [0], []⟩,
    ⟨some 8, .call 240 [(.tmp 7), (.const (.int .i64 (1)))], none, [7], []⟩,
    ⟨some 6, .mv (.tmp 8), none, [8], []⟩,
    ⟨some 9, .ext 0 (.tmp 6), none, [6], []⟩,
    ⟨some 10, .ext 1 (.tmp 6), none, [6], []⟩,
    ⟨some 4, .mv (.tmp 9), none, [9], []⟩,
    ⟨some 5, .mv (.tmp 10), none, [10], []⟩] [4, 5])
(.seq (.seq (.reg false [⟨some 11, .mv (.tmp 5), none, [5], []⟩,
    ⟨some 12, .isnil true .nilIface (.tmp 11), none, [11], []⟩] [4, 5, 12])
(.cond (.tmp 12)
(.seq (.reg false [⟨some 13, .mv (.tmp 5), none, [5], []⟩,
    ⟨some 2, .mv (.const (.int .i64 (0))), none, [], []⟩,
    ⟨some 3, .mv (.tmp 13), none, [13], []⟩] [2, 3])
.ret)
.skip))
(.seq (.reg false [⟨some 14, .mv (.tmp 4), none, [4], []⟩,
    ⟨some 15, .idx 1 (.tmp 14) (.const (.int .i64 (0))), none, [14], []⟩,
    ⟨some 16, .load false 1 (.tmp 15), none, [15], []⟩,
    ⟨some 17, .conv .i64 (.tmp 16), none, [16], []⟩,
    ⟨some 2, .mv (.tmp 17), none, [17], []⟩,
    ⟨some 3, .mv (.const .nilIface), none, [], []⟩] [2, 3])
.ret))))
theorem ok_211 : FnOk Tryz.prog 211 18 ac_211 [.tmp 2, .tmp 3] := ⟨Tryz.f211, Tryz.func211, by kernel_rfl, by kernel_rfl, by kernel_rfl, by kernel_rfl, by kernel_rfl⟩
def ac_212 : AC :=
(.seq (.reg false [⟨some 2, .mv (.const (.slice none 0 0)), none, [], []⟩,
    ⟨some 3, .mv (.const .nilIface), none, [], []⟩] [0])
(.seq (.reg false [⟨some 10, .mv (.tmp 0), none, [0], []⟩,
    ⟨some 11, .call 241 [(.tmp 10), (.const (.int .i64 (64)))], none, [10], []⟩,
    ⟨some 9, .mv (.tmp 11), none, [11], []⟩,
    ⟨some 12, .ext 0 (.tmp 9), none, [9], []⟩,
    ⟨some 13, .ext 1 (.tmp 9), none, [9], []⟩,
    ⟨some 4, .mv (.tmp 12), none, [12], []⟩,
    ⟨some 5, .mv (.tmp 13), none, [13], []⟩] [0, 4, 5])
(.seq (.reg false [⟨some 6, .mv (.const (.slice none 0 0)), none, [], []⟩] [0, 4, 5, 6])
(.seq (.seq (.reg false [⟨some 7, .mv (.const (.int .i64 (0))), none, [], []⟩] [0, 4, 5, 6, 7])
(.block 0 (.loop (.seq (.seq (.reg false [⟨some 14, .mv (.tmp 5), none, [5], []⟩,
    ⟨some 15, .isnil false .nilIface (.tmp 14), none, [14], []⟩,
    ⟨some 16, .mv (.tmp 15), none, [15], []⟩,
    ⟨some 17, .mv (.tmp 7), some (16, true), [7, 16], []⟩,
    ⟨some 18, .mv (.tmp 4), some (16, true), [4, 16], []⟩,
    ⟨some 19, .bin .lss (.tmp 17) (.tmp 18), some (16, true), [17, 18, 16], []⟩,
    ⟨some 20, .pick (.tmp 16) (.tmp 19) (.const (.bool false)), none, [16, 19], []⟩] [0, 4, 5, 6, 7, 20])
(.cond (.tmp 20)
.skip
(.exit 0)))
(.seq (.block 1 (.seq (.reg false [⟨some 8, .mv (.const (.int .u64 (0))), none, [], []⟩] [0, 4, 6, 7])
(.seq (.reg false [⟨some 24, .mv (.tmp 0), none, [0], []⟩,
    ⟨some 25, .call 242 [(.tmp 24)], none, [24], []⟩,
    ⟨some 23, .mv (.tmp 25), none, [25], []⟩,
    ⟨some 26, .ext 0 (.tmp 23), none, [23], []⟩,
    ⟨some 27, .ext 1 (.tmp 23), none, [23], []⟩,
    ⟨some 8, .mv (.tmp 26), none, [26], []⟩,
    ⟨some 5, .mv (.tmp 27), none, [27], []⟩] [0, 4, 5, 6, 7, 8])
(.reg false [⟨some 28, .mv (.tmp 6), none, [6], []⟩,
    ⟨some 29, .mv (.tmp 8), none, [8], []⟩,
    ⟨some 30, .bin .shr (.tmp 29) (.const (.int .u64 (1))), none, [29], []⟩,
    ⟨some 31, .conv .i64 (.tmp 30), none, [30], []⟩,
    ⟨some 32, .mv (.tmp 8), none, [8], []⟩,
    ⟨some 33, .bin .and (.tmp 32) (.const (.int .u64 (1))), none, [32], []⟩,
    ⟨some 34, .conv .i64 (.tmp 33), none, [33], []⟩,
    ⟨some 35, .un .neg (.tmp 34), none, [34], []⟩,
    ⟨some 36, .bin .xor (.tmp 31) (.tmp 35), none, [31, 35], []⟩,
    ⟨some 37, .bslice 3 1 1 [(.int .i64 (0))] [(0, 1, (.tmp 36))], none, [36], []⟩,
    ⟨some 38, .append 3 1 8 (.tmp 28) (.tmp 37), none, [28, 37], []⟩,
    ⟨some 6, .mv (.tmp 38), none, [38], []⟩] [0, 4, 5, 6, 7]))))
(.reg false [⟨some 21, .mv (.tmp 7), none, [7], []⟩,
    ⟨some 22, .bin .add (.tmp 21) (.const (.int .i64 (1))), none, [21], []⟩,
    ⟨some 7, .mv (.tmp 22), none, [22], []⟩] [0, 4, 5, 6, 7]))))))
(.seq (.reg false [⟨some 39, .mv (.tmp 6), none, [6], []⟩,
    ⟨some 40, .mv (.tmp 5), none, [5], []⟩,
    ⟨some 2, .mv (.tmp 39), none, [39], []⟩,
    ⟨some 3, .mv (.tmp 40), none, [40], []⟩] [2, 3])
.ret)))))
theorem ok_212 : FnOk Tryz.prog 212 41 ac_212 [.tmp 2, .tmp 3] := ⟨Tryz.f212, Tryz.func212, by kernel_rfl, by kernel_rfl, by kernel_rfl, by kernel_rfl, by kernel_rfl⟩
def ac_213 : AC :=
(.seq (.reg false [⟨some 2, .mv (.const (.slice none 0 0)), none, [], []⟩,
    ⟨some 3, .mv (.const .nilIface), none, [], []⟩] [0])
(.seq (.reg false [⟨some 10, .mv (.tmp 0), none, [0], []⟩,
    ⟨some 11, .call 241 [(.tmp 10), (.const (.int .i64 (64)))], none, [10], []⟩,
    ⟨some 9, .mv (.tmp 11), none, [11], []⟩,
    ⟨some 12, .ext 0 (.tmp 9), none, [9], []⟩,
    ⟨some 13, .ext 1 (.tmp 9), none, [9], []⟩,
    ⟨some 4, .mv (.tmp 12), none, [12], []⟩,
    ⟨some 5, .mv (.tmp 13), none, [13], []⟩] [0, 4, 5])
(.seq (.reg false [⟨some 6, .mv (.const (.slice none 0 0)), none, [], []⟩] [0, 4, 5, 6])
(.seq (.seq (.reg false [⟨some 7, .mv (.const (.int .i64 (0))), none, [], []⟩] [0, 4, 5, 6, 7])
(.block 0 (.loop (.seq (.seq (.reg false [⟨some 14, .mv (.tmp 5), none, [5], []⟩,
    ⟨some 15, .isnil false .nilIface (.tmp 14), none, [14], []⟩,
    ⟨some 16, .mv (.tmp 15), none, [15], []⟩,
    ⟨some 17, .mv (.tmp 7), some (16, true), [7, 16], []⟩,
    ⟨some 18, .mv (.tmp 4), some (16, true), [4, 16], []⟩,
    ⟨some 19, .bin .lss (.tmp 17) (.tmp 18), some (16, true), [17, 18, 16], []⟩,
    ⟨some 20, .pick (.tmp 16) (.tmp 19) (.const (.bool false)), none, [16, 19], []⟩] [0, 4, 5, 6, 7, 20])
(.cond (.tmp 20)
.skip
(.exit 0)))
(.seq (.block 1 (.seq (.reg false [⟨some 8, .mv (.const (.slice none 0 0)), none, [], []⟩] [0, 4, 6, 7])
(.seq (.reg false [⟨some 24, .mv (.tmp 0), none, [0], []⟩,
    ⟨some 25, .call 243 [(.tmp 24)], none, [24], []⟩,
    ⟨some 23, .mv (.tmp 25), none, [25], []⟩,
    ⟨some 26, .ext 0 (.tmp 23), none, [23], []⟩,
    ⟨some 27, .ext 1 (.tmp 23), none, [23], []⟩,
    ⟨some 8, .mv (.tmp 26), none, [26], []⟩,
    ⟨some 5, .mv (.tmp 27), none, [27], []⟩] [0, 4, 5, 6, 7, 8])
(.reg false [⟨some 28, .mv (.tmp 6), none, [6], []⟩,
    ⟨some 29, .mv (.tmp 8), none, [8], []⟩,
    ⟨some 30, .bslice 37 1 1 [(.slice none 0 0)] [(0, 1, (.tmp 29))], none, [29], []⟩,
    ⟨some 31, .append 37 1 24 (.tmp 28) (.tmp 30), none, [28, 30], []⟩,
    ⟨some 6, .mv (.tmp 31), none, [31], []⟩] [0, 4, 5, 6, 7]))))
(.reg false [⟨some 21, .mv (.tmp 7), none, [7], []⟩,
    ⟨some 22, .bin .add (.tmp 21) (.const (.int .i64 (1))), none, [21], []⟩,
    ⟨some 7, .mv (.tmp 22), none, [22], []⟩] [0, 4, 5, 6, 7]))))))
(.seq (.reg false [⟨some 32, .mv (.tmp 6), none, [6], []⟩,
    ⟨some 33, .mv (.tmp 5), none, [5], []⟩,
    ⟨some 2, .mv (.tmp 32), none, [32], []⟩,
    ⟨some 3, .mv (.tmp 33), none, [33], []⟩] [2, 3])
.ret)))))
theorem ok_213 : FnOk Tryz.prog 213 34 ac_213 [.tmp 2, .tmp 3] := ⟨Tryz.f213, Tryz.func213, by kernel_rfl, by kernel_rfl, by kernel_rfl, by kernel_rfl, by kernel_rfl⟩
def ac_217 : AC :=
(.seq (.reg false [⟨some 4, .mv (.const (.string (ByteArray.mk #[]))), none, [], []⟩,
    ⟨some 5, .mv (.const (.bool false)), none, [], []⟩] [0, 1])
(.seq (.seq (.reg false [⟨some 6, .mv (.tmp 0), none, [0], []⟩,
    ⟨some 7, .mv (.tmp 1), none, [1], []⟩,
    ⟨some 8, .call 248 [(.tmp 6), (.tmp 7)], none, [6, 7], []⟩,
    ⟨some 9, .un .not (.tmp 8), none, [8], []⟩] [0, 1, 9])
(.cond (.tmp 9)
(.seq (.reg false [⟨some 10, .mv (.tmp 0), none, [0], []⟩,
    ⟨some 4, .mv (.tmp 10), none, [10], []⟩,
    ⟨some 5, .mv (.const (.bool false)), none, [], []⟩] [4, 5])
.ret)
.skip))
(.seq (.reg false [⟨some 11, .mv (.tmp 0), none, [0], []⟩,
    ⟨some 12, .mv (.tmp 1), none, [1], []⟩,
    ⟨some 13, .len true (.tmp 12), none, [12], []⟩,
    ⟨some 14, .sslice (.tmp 11) (some (.tmp 13)) none, none, [11, 13], []⟩,
    ⟨some 4, .mv (.tmp 14), none, [14], []⟩,
    ⟨some 5, .mv (.const (.bool true)), none, [], []⟩] [4, 5])
.ret)))
theorem ok_217 : FnOk Tryz.prog 217 15 ac_217 [.tmp 4, .tmp 5] := ⟨Tryz.f217, Tryz.func217, by kernel_rfl, by kernel_rfl, by kernel_rfl, by kernel_rfl, by kernel_rfl⟩
def ac_218 : AC :=
(.seq (.reg false [⟨some 3, .box 9 (.tmp 0), none, [0], []⟩,
    ⟨some 4, .box 9 (.tmp 1), none, [1], []⟩,
    ⟨some 5, .box 3 (.tmp 2), none, [2], []⟩,
    ⟨some 6, .mv (.const .nilFunc), none, [], []⟩] [3, 4, 5])
(.seq (.reg false [⟨some 7, .clo 249 [(.tmp 4), (.tmp 3), (.tmp 5)], none, [4, 3, 5], []⟩,
    ⟨some 6, .mv (.tmp 7), none, [7], []⟩] [6])
.ret))
theorem ok_218 : FnOk Tryz.prog 218 8 ac_218 [.tmp 6] := ⟨Tryz.f218, Tryz.func218, by kernel_rfl, by kernel_rfl, by kernel_rfl, by kernel_rfl, by kernel_rfl⟩
def ac_219 : AC :=
(.seq (.reg false [⟨some 2, .mv (.const (.int .i64 (0))), none, [], []⟩] [0])
(.seq (.block 0 (.seq (.seq (.reg false [⟨some 4, .mv (.tmp 0), none, [0], []⟩,
    ⟨some 5, .bin .eql (.tmp 4) (.const (.string (ByteArray.mk #[]))), none, [4], []⟩,
    ⟨some 3, .mv (.tmp 5), none, [5], []⟩] [0, 3])
(.cond (.tmp 3)
.skip
(.seq (.reg false [⟨some 6, .mv (.tmp 0), none, [0], []⟩,
    ⟨some 7, .bin .eql (.tmp 6) (.const (.string (ByteArray.mk #[46]))), none, [6], []⟩,
    ⟨some 3, .mv (.tmp 7), none, [7], []⟩] [0, 3])
(.cond (.tmp 3)
.skip
(.seq (.reg false [⟨some 8, .mv (.tmp 0), none, [0], []⟩,
    ⟨some 9, .bin .eql (.tmp 8) (.const (.string (ByteArray.mk #[46, 46]))), none, [8], []⟩,
    ⟨some 3, .mv (.tmp 9), none, [9], []⟩] [0, 3])
(.cond (.tmp 3)
.skip
(.seq (.reg false [⟨some 10, .mv (.tmp 0), none, [0], []⟩,
    ⟨some 11, .len true (.tmp 10), none, [10], []⟩,
    ⟨some 12, .bin .gtr (.tmp 11) (.const (.int .i64 (16))), none, [11], []⟩,
    ⟨some 3, .mv (.tmp 12), none, [12], []⟩] [0, 3])
(.cond (.tmp 3)
.skip
(.seq (.reg false [⟨some 13, .mv (.tmp 0), none, [0], []⟩,
    ⟨some 14, .call 252 [(.tmp 13), (.const (.string (ByteArray.mk #[47])))], none, [13], []⟩,
    ⟨some 3, .mv (.tmp 14), none, [14], []⟩] [0, 3])
(.cond (.tmp 3)
.skip
(.reg false [⟨some 15, .mv (.tmp 0), none, [0], []⟩,
    ⟨some 16, .call 252 [(.tmp 15), (.const (.string (ByteArray.mk #[0])))], none, [15], []⟩,
    ⟨some 3, .mv (.tmp 16), none, [16], []⟩] [3])))))))))))
(.cond (.tmp 3)
(.seq (.reg false [⟨some 2, .mv (.const (.int .i64 (106))), none, [], []⟩] [2])
.ret)
.skip)))
(.seq (.reg false [⟨some 2, .mv (.const (.int .i64 (0))), none, [], []⟩] [2])
.ret)))
theorem ok_219 : FnOk Tryz.prog 219 17 ac_219 [.tmp 2] := ⟨Tryz.f219, Tryz.func219, by kernel_rfl, by kernel_rfl, by kernel_rfl, by kernel_rfl, by kernel_rfl⟩
def ac_221 : AC :=
(.seq (.reg false [⟨some 4, .mv (.const (.int .i64 (0))), none, [], []⟩,
    ⟨some 5, .mv (.const (.bool false)), none, [], []⟩] [0, 1])
(.seq (.reg false [⟨some 6, .mv (.tmp 0), none, [0], []⟩,
    ⟨some 7, .mv (.tmp 1), none, [1], []⟩,
    ⟨some 8, .call 253 [(.tmp 6), (.tmp 7), (.func 254)], none, [6, 7], []⟩,
    ⟨some 9, .ext 0 (.tmp 8), none, [8], []⟩,
    ⟨some 10, .ext 1 (.tmp 8), none, [8], []⟩,
    ⟨some 4, .mv (.tmp 9), none, [9], []⟩,
    ⟨some 5, .mv (.tmp 10), none, [10], []⟩] [4, 5])
.ret))
theorem ok_221 : FnOk Tryz.prog 221 11 ac_221 [.tmp 4, .tmp 5] := ⟨Tryz.f221, Tryz.func221, by kernel_rfl, by kernel_rfl, by kernel_rfl, by kernel_rfl, by kernel_rfl⟩
def ac_223 : AC :=
(.seq (.reg false [⟨some 2, .box 118 (.tmp 0), none, [0], []⟩,
    ⟨some 4, .mv (.const (.int .i64 (0))), none, [], []⟩] [1, 2])
(.seq (.reg false [⟨some 5, .foff 0 (.tmp 2), none, [2], []⟩,
    ⟨some 6, .load false 1 (.tmp 5), none, [5], []⟩,
    ⟨some 7, .mv (.tmp 1), none, [1], []⟩,
    ⟨some 8, .call 85 [(.tmp 6), (.tmp 7)], none, [6, 7], []⟩,
    ⟨some 4, .mv (.tmp 8), none, [8], []⟩] [4])
.ret))
theorem ok_223 : FnOk Tryz.prog 223 9 ac_223 [.tmp 4] := ⟨Tryz.f223, Tryz.func223, by kernel_rfl, by kernel_rfl, by kernel_rfl, by kernel_rfl, by kernel_rfl⟩
def ac_224 : AC :=
(.seq (.reg false [⟨some 4, .mv (.const (.slice none 0 0)), none, [], []⟩] [0, 1])
(.seq (.seq (.reg false [⟨some 7, .mv (.tmp 0), none, [0], []⟩,
    ⟨some 8, .len false (.tmp 7), none, [7], []⟩,
    ⟨some 9, .bin .eql (.tmp 8) (.const (.int .i64 (0))), none, [8], []⟩] [0, 1, 9])
(.cond (.tmp 9)
(.seq (.reg false [⟨some 4, .mv (.const (.slice none 0 0)), none, [], []⟩] [4])
.ret)
.skip))
(.seq (.seq (.reg false [⟨some 10, .mv (.tmp 1), none, [1], []⟩,
    ⟨some 11, .bin .eql (.tmp 10) (.const (.string (ByteArray.mk #[]))), none, [10], []⟩] [0, 1, 11])
(.cond (.tmp 11)
(.seq (.reg false [⟨some 12, .mv (.tmp 0), none, [0], []⟩,
    ⟨some 4, .mv (.tmp 12), none, [12], []⟩] [4])
.ret)
.skip))
(.seq (.seq (.reg false [⟨some 13, .mv (.tmp 1), none, [1], []⟩,
    ⟨some 14, .len true (.tmp 13), none, [13], []⟩,
    ⟨some 15, .bin .eql (.tmp 14) (.const (.int .i64 (1))), none, [14], []⟩,
    ⟨some 16, .mv (.tmp 15), none, [15], []⟩,
    ⟨some 17, .mv (.tmp 1), some (16, true), [1, 16], []⟩,
    ⟨some 18, .sidx (.tmp 17) (.const (.int .i64 (0))), some (16, true), [17, 16], []⟩,
    ⟨some 19, .bin .lss (.tmp 18) (.const (.int .u8 (128))), some (16, true), [18, 16], []⟩,
    ⟨some 20, .pick (.tmp 16) (.tmp 19) (.const (.bool false)), none, [16, 19], []⟩] [0, 1, 20])
(.cond (.tmp 20)
(.seq (.reg true [⟨some 21, .mv (.tmp 0), none, [0], []⟩,
    ⟨some 22, .mv (.tmp 1), none, [1], []⟩,
    ⟨some 23, .sidx (.tmp 22) (.const (.int .i64 (0))), none, [22], [1]⟩,
    ⟨some 24, .call 259 [(.tmp 21), (.tmp 23)], none, [21, 23], [0, 2, 1]⟩,
    ⟨some 25, .mv (.tmp 1), none, [1], []⟩,
    ⟨some 26, .sidx (.tmp 25) (.const (.int .i64 (0))), none, [25], [4]⟩,
    ⟨some 27, .call 258 [(.tmp 24), (.tmp 26)], none, [24, 26], [3, 5, 0, 2, 1, 4]⟩,
    ⟨some 4, .mv (.tmp 27), none, [27], [6, 0, 1, 2, 3, 4, 5]⟩] [4])
.ret)
.skip))
(.seq (.seq (.reg false [⟨some 29, .mv (.tmp 1), none, [1], []⟩,
    ⟨some 30, .call 260 [(.tmp 29)], none, [29], []⟩,
    ⟨some 28, .mv (.tmp 30), none, [30], []⟩,
    ⟨some 31, .ext 0 (.tmp 28), none, [28], []⟩,
    ⟨some 32, .ext 1 (.tmp 28), none, [28], []⟩,
    ⟨some 5, .new 385 [(.bool false), (.bool false), (.bool false), (.bool false), (.bool false), (.bool false), (.bool false), (.bool false), (.bool false), (.bool false), (.bool false), (.bool false), (.bool false), (.bool false), (.bool false), (.bool false), (.bool false), (.bool false), (.bool false), (.bool false), (.bool false), (.bool false), (.bool false), (.bool false), (.bool false), (.bool false), (.bool false), (.bool false), (.bool false), (.bool false), (.bool false), (.bool false), (.bool false), (.bool false), (.bool false), (.bool false), (.bool false), (.bool false), (.bool false), (.bool false), (.bool false), (.bool false), (.bool false), (.bool false), (.bool false), (.bool false), (.bool false), (.bool false), (.bool false), (.bool false), (.bool false), (.bool false), (.bool false), (.bool false), (.bool false), (.bool false), (.bool false), (.bool false), (.bool false), (.bool false), (.bool false), (.bool false), (.bool false), (.bool false), (.bool false), (.bool false), (.bool false), (.bool false), (.bool false), (.bool false), (.bool false), (.bool false), (.bool false), (.bool false), (.bool false), (.bool false), (.bool false), (.bool false), (.bool false), (.bool false), (.bool false), (.bool false), (.bool false), (.bool false), (.bool false), (.bool false), (.bool false), (.bool false), (.bool false), (.bool false), (.bool false), (.bool false), (.bool false), (.bool false), (.bool false), (.bool false), (.bool false), (.bool false), (.bool false), (.bool false), (.bool false), (.bool false), (.bool false), (.bool false), (.bool false), (.bool false), (.bool false), (.bool false), (.bool false), (.bool false), (.bool false), (.bool false), (.bool false), (.bool false), (.bool false), (.bool false), (.bool false), (.bool false), (.bool false), (.bool false), (.bool false), (.bool false), (.bool false), (.bool false), (.bool false), (.bool false), (.bool false), (.bool false), (.bool false), (.bool false), (.bool false), (.bool false), (.bool false), (.bool false), (.bool false), (.bool false), (.bool false), (.bool false), (.bool false), (.bool false), (.bool false), (.bool false), (.bool false), (.bool false), (.bool false), (.bool false), (.bool false), (.bool false), (.bool false), (.bool false), (.bool false), (.bool false), (.bool false), (.bool false), (.bool false), (.bool false), (.bool false), (.bool false), (.bool false), (.bool false), (.bool false), (.bool false), (.bool false), (.bool false), (.bool false), (.bool false), (.bool false), (.bool false), (.bool false), (.bool false), (.bool false), (.bool false), (.bool false), (.bool false), (.bool false), (.bool false), (.bool false), (.bool false), (.bool false), (.bool false), (.bool false), (.bool false), (.bool false), (.bool false), (.bool false), (.bool false), (.bool false), (.bool false), (.bool false), (.bool false), (.bool false), (.bool false), (.bool false), (.bool false), (.bool false), (.bool false), (.bool false), (.bool false), (.bool false), (.bool false), (.bool false), (.bool false), (.bool false), (.bool false), (.bool false), (.bool false), (.bool false), (.bool false), (.bool false), (.bool false), (.bool false), (.bool false), (.bool false), (.bool false), (.bool false), (.bool false), (.bool false), (.bool false), (.bool false), (.bool false), (.bool false), (.bool false), (.bool false), (.bool false), (.bool false), (.bool false), (.bool false), (.bool false), (.bool false), (.bool false), (.bool false), (.bool false), (.bool false), (.bool false), (.bool false), (.bool false), (.bool false), (.bool false), (.bool false), (.bool false), (.bool false), (.bool false), (.bool false), (.bool false), (.bool false), (.bool false), (.bool false), (.bool false), (.bool false), (.bool false), (.bool false), (.bool false), (.bool false), (.bool false), (.bool false), (.bool false)], none, [], []⟩,
    ⟨none, .store 256 (.tmp 5) (.tmp 31), none, [5, 31], []⟩,
    ⟨some 6, .mv (.tmp 32), none, [32], []⟩] [0, 1, 5, 6])
(.seq (.reg false [⟨some 33, .mv (.tmp 6), none, [6], []⟩] [0, 1, 5, 33])
(.cond (.tmp 33)
(.seq (.reg false [⟨some 34, .mv (.tmp 0), none, [0], []⟩,
    ⟨some 35, .call 262 [(.tmp 34), (.tmp 5)], none, [34, 5], []⟩,
    ⟨some 36, .call 261 [(.tmp 35), (.tmp 5)], none, [35, 5], []⟩,
    ⟨some 4, .mv (.tmp 36), none, [36], []⟩] [4])
.ret)
.skip)))
(.seq (.reg false [⟨some 37, .mv (.tmp 0), none, [0], []⟩,
    ⟨some 38, .mv (.tmp 1), none, [1], []⟩,
    ⟨some 39, .call 264 [(.tmp 37), (.tmp 38)], none, [37, 38], []⟩,
    ⟨some 40, .mv (.tmp 1), none, [1], []⟩,
    ⟨some 41, .call 263 [(.tmp 39), (.tmp 40)], none, [39, 40], []⟩,
    ⟨some 4, .mv (.tmp 41), none, [41], []⟩] [4])
.ret))))))
theorem ok_224 : FnOk Tryz.prog 224 42 ac_224 [.tmp 4] := ⟨Tryz.f224, Tryz.func224, by kernel_rfl, by kernel_rfl, by kernel_rfl, by kernel_rfl, by kernel_rfl⟩
end Go.Proofs.YtonglhkiobibgaaGreatDoor
namespace Go.Proofs.YtonglhkiobibgaaGreatDoor
set_option maxRecDepth 100000
def ac_237 : AC :=
(.seq (.reg false [⟨some 4, .mv (.const (.slice none 0 0)), none, [], []⟩] [0, 1])
(.seq (.seq (.reg false [⟨some 5, .mv (.tmp 1), none, [1], []⟩,
    ⟨some 6, .bin .lss (.tmp 5) (.const (.int .i64 (0))), none, [5], []⟩] [0, 1, 6])
(.cond (.tmp 6)
(.reg false [⟨some 7, .mkif 9 (.const (.string (ByteArray.mk #[99, 97, 110, 110, 111, 116, 32, 98, 101, 32, 110, 101, 103, 97, 116, 105, 118, 101]))), none, [], []⟩,
    ⟨none, .die , none, [7], []⟩] [0, 1])
.skip))
(.seq (.seq (.reg false [⟨some 8, .mv (.tmp 1), none, [1], []⟩,
    ⟨some 9, .mv (.tmp 0), none, [0], []⟩,
    ⟨some 10, .cap (.tmp 9), none, [9], []⟩,
    ⟨some 11, .mv (.tmp 0), none, [0], []⟩,
    ⟨some 12, .len false (.tmp 11), none, [11], []⟩,
    ⟨some 13, .bin .sub (.tmp 10) (.tmp 12), none, [10, 12], []⟩,
    ⟨some 14, .bin .sub (.tmp 8) (.tmp 13), none, [8, 13], []⟩,
    ⟨some 1, .mv (.tmp 14), none, [14], []⟩] [0, 1])
(.seq (.reg false [⟨some 15, .mv (.tmp 1), none, [1], []⟩,
    ⟨some 16, .bin .gtr (.tmp 15) (.const (.int .i64 (0))), none, [15], []⟩] [0, 1, 16])
(.cond (.tmp 16)
(.reg false [⟨some 17, .mv (.tmp 0), none, [0], []⟩,
    ⟨some 18, .mv (.tmp 0), none, [0], []⟩,
    ⟨some 19, .cap (.tmp 18), none, [18], []⟩,
    ⟨some 20, .slice 1 (.tmp 17) none (some (.tmp 19)), none, [17, 19], []⟩,
    ⟨some 21, .mv (.tmp 1), none, [1], []⟩,
    ⟨some 22, .appz 5 1 1 [(.int .u8 (0))] (.tmp 20) (.tmp 21), none, [20, 21], []⟩,
    ⟨some 23, .mv (.tmp 0), none, [0], []⟩,
    ⟨some 24, .len false (.tmp 23), none, [23], []⟩,
    ⟨some 25, .slice 1 (.tmp 22) none (some (.tmp 24)), none, [22, 24], []⟩,
    ⟨some 0, .mv (.tmp 25), none, [25], []⟩] [0])
.skip)))
(.seq (.reg false [⟨some 26, .mv (.tmp 0), none, [0], []⟩,
    ⟨some 4, .mv (.tmp 26), none, [26], []⟩] [4])
.ret))))
theorem ok_237 : FnOk Tryz.prog 237 27 ac_237 [.tmp 4] := ⟨Tryz.f237, Tryz.func237, by kernel_rfl, by kernel_rfl, by kernel_rfl, by kernel_rfl, by kernel_rfl⟩
def ac_238 : AC :=
(.seq (.reg false [⟨some 4, .mv (.const (.int .u32 (0))), none, [], []⟩] [0, 1])
(.seq (.reg false [⟨some 8, .call 275 [], none, [], []⟩,
    ⟨some 5, .new 399 [(.int .u32 (0)), (.int .u32 (0)), (.int .u32 (0)), (.int .u32 (0)), (.int .u32 (0)), (.int .u32 (0)), (.int .u32 (0)), (.int .u32 (0)), (.int .u32 (0)), (.int .u32 (0)), (.int .u32 (0)), (.int .u32 (0)), (.int .u32 (0)), (.int .u32 (0)), (.int .u32 (0)), (.int .u32 (0))], none, [], []⟩,
    ⟨none, .store 16 (.tmp 5) (.tmp 8), none, [5, 8], []⟩] [0, 1, 5])
(.seq (.reg false [⟨some 9, .mv (.tmp 0), none, [0], []⟩,
    ⟨some 10, .un .xor (.tmp 9), none, [9], []⟩,
    ⟨some 0, .mv (.tmp 10), none, [10], []⟩] [0, 1, 5])
(.seq (.seq (.reg false [⟨some 11, .mv (.tmp 1), none, [1], []⟩,
    ⟨some 12, .len false (.tmp 11), none, [11], []⟩,
    ⟨some 13, .mv (.const (.int .i64 (0))), none, [], []⟩] [0, 5, 11, 12, 13])
(.block 0 (.loop (.seq (.reg false [⟨some 14, .bin .lss (.tmp 13) (.tmp 12), none, [13, 12], []⟩] [0, 5, 11, 12, 13, 14])
(.seq (.cond (.tmp 14)
.skip
(.exit 0))
(.seq (.block 1 (.seq (.reg false [⟨some 15, .idx 1 (.tmp 11) (.tmp 13), none, [11, 13], []⟩,
    ⟨some 16, .load false 1 (.tmp 15), none, [15], []⟩,
    ⟨some 7, .mv (.tmp 16), none, [16], []⟩] [0, 5, 7, 11, 12, 13])
(.seq (.reg false [⟨some 17, .mv (.tmp 0), none, [0], []⟩,
    ⟨some 18, .mv (.tmp 7), none, [7], []⟩,
    ⟨some 19, .conv .u32 (.tmp 18), none, [18], []⟩,
    ⟨some 20, .bin .xor (.tmp 17) (.tmp 19), none, [17, 19], []⟩,
    ⟨some 0, .mv (.tmp 20), none, [20], []⟩] [0, 5, 11, 12, 13])
(.seq (.reg false [⟨some 21, .mv (.tmp 0), none, [0], []⟩,
    ⟨some 22, .bin .shr (.tmp 21) (.const (.int .u64 (4))), none, [21], []⟩,
    ⟨some 23, .mv (.tmp 0), none, [0], []⟩,
    ⟨some 24, .bin .and (.tmp 23) (.const (.int .u32 (15))), none, [23], []⟩,
    ⟨some 25, .aidx 1 16 (.tmp 5) (.tmp 24), none, [5, 24], []⟩,
    ⟨some 26, .load false 1 (.tmp 25), none, [25], []⟩,
    ⟨some 27, .bin .xor (.tmp 22) (.tmp 26), none, [22, 26], []⟩,
    ⟨some 0, .mv (.tmp 27), none, [27], []⟩] [0, 5, 11, 12, 13])
(.reg false [⟨some 28, .mv (.tmp 0), none, [0], []⟩,
    ⟨some 29, .bin .shr (.tmp 28) (.const (.int .u64 (4))), none, [28], []⟩,
    ⟨some 30, .mv (.tmp 0), none, [0], []⟩,
    ⟨some 31, .bin .and (.tmp 30) (.const (.int .u32 (15))), none, [30], []⟩,
    ⟨some 32, .aidx 1 16 (.tmp 5) (.tmp 31), none, [5, 31], []⟩,
    ⟨some 33, .load false 1 (.tmp 32), none, [32], []⟩,
    ⟨some 34, .bin .xor (.tmp 29) (.tmp 33), none, [29, 33], []⟩,
    ⟨some 0, .mv (.tmp 34), none, [34], []⟩] [0, 5, 11, 12, 13])))))
(.reg false [⟨some 35, .bin .add (.tmp 13) (.const (.int .i64 (1))), none, [13], []⟩,
    ⟨some 13, .mv (.tmp 35), none, [35], []⟩] [0, 5, 11, 12, 13])))))))
(.seq (.reg false [⟨some 36, .mv (.tmp 0), none, [0], []⟩,
    ⟨some 37, .un .xor (.tmp 36), none, [36], []⟩,
    ⟨some 4, .mv (.tmp 37), none, [37], []⟩] [4])
.ret)))))
theorem ok_238 : FnOk Tryz.prog 238 38 ac_238 [.tmp 4] := ⟨Tryz.f238, Tryz.func238, by kernel_rfl, by kernel_rfl, by kernel_rfl, by kernel_rfl, by kernel_rfl⟩
def ac_240 : AC :=
(.seq (.reg false [⟨some 4, .mv (.const (.slice none 0 0)), none, [], []⟩,
    ⟨some 5, .mv (.const .nilIface), none, [], []⟩] [0, 1])
(.seq (.seq (.reg false [⟨some 7, .mv (.tmp 0), none, [0], []⟩,
    ⟨some 8, .nilc (.tmp 7), none, [7], []⟩,
    ⟨some 9, .foff 0 (.tmp 8), none, [8], []⟩,
    ⟨some 10, .load false 1 (.tmp 9), none, [9], []⟩,
    ⟨some 11, .len false (.tmp 10), none, [10], []⟩,
    ⟨some 12, .mv (.tmp 1), none, [1], []⟩,
    ⟨some 13, .bin .lss (.tmp 11) (.tmp 12), none, [11, 12], []⟩] [0, 1, 13])
(.cond (.tmp 13)
(.seq (.reg false [⟨some 14, .build [(.int .i64 (0))] [(0, 1, (.const (.int .i64 (8))))], none, [], []⟩,
    ⟨some 15, .mkif 323 (.tmp 14), none, [14], []⟩,
    ⟨some 4, .mv (.const (.slice none 0 0)), none, [], []⟩,
    ⟨some 5, .mv (.tmp 15), none, [15], []⟩] [4, 5])
.ret)
.skip))
(.seq (.reg false [⟨some 16, .mv (.tmp 0), none, [0], []⟩,
    ⟨some 17, .nilc (.tmp 16), none, [16], []⟩,
    ⟨some 18, .foff 0 (.tmp 17), none, [17], []⟩,
    ⟨some 19, .load false 1 (.tmp 18), none, [18], []⟩,
    ⟨some 20, .mv (.tmp 1), none, [1], []⟩,
    ⟨some 21, .slice 1 (.tmp 19) none (some (.tmp 20)), none, [19, 20], []⟩,
    ⟨some 6, .mv (.tmp 21), none, [21], []⟩] [0, 1, 6])
(.seq (.reg false [⟨some 22, .mv (.tmp 0), none, [0], []⟩,
    ⟨some 23, .mv (.tmp 0), none, [0], []⟩,
    ⟨some 24, .nilc (.tmp 23), none, [23], []⟩,
    ⟨some 25, .foff 0 (.tmp 24), none, [24], []⟩,
    ⟨some 26, .load false 1 (.tmp 25), none, [25], []⟩,
    ⟨some 27, .mv (.tmp 1), none, [1], []⟩,
    ⟨some 28, .slice 1 (.tmp 26) (some (.tmp 27)) none, none, [26, 27], []⟩,
    ⟨some 29, .nilc (.tmp 22), none, [22], []⟩,
    ⟨some 30, .foff 0 (.tmp 29), none, [29], []⟩,
    ⟨none, .store 1 (.tmp 30) (.tmp 28), none, [30, 28], []⟩] [6])
(.seq (.reg false [⟨some 31, .mv (.tmp 6), none, [6], []⟩,
    ⟨some 4, .mv (.tmp 31), none, [31], []⟩,
    ⟨some 5, .mv (.const .nilIface), none, [], []⟩] [4, 5])
.ret)))))
theorem ok_240 : FnOk Tryz.prog 240 32 ac_240 [.tmp 4, .tmp 5] := ⟨Tryz.f240, Tryz.func240, by kernel_rfl, by kernel_rfl, by kernel_rfl, by kernel_rfl, by kernel_rfl⟩
def ac_241 : AC :=
(.seq (.reg false [⟨some 4, .mv (.const (.int .i64 (0))), none, [], []⟩,
    ⟨some 5, .mv (.const .nilIface), none, [], []⟩] [0, 1])
(.seq (.reg false [⟨some 9, .mv (.tmp 0), none, [0], []⟩,
    ⟨some 10, .call 211 [(.tmp 9)], none, [9], []⟩,
    ⟨some 8, .mv (.tmp 10), none, [10], []⟩,
    ⟨some 11, .ext 0 (.tmp 8), none, [8], []⟩,
    ⟨some 12, .ext 1 (.tmp 8), none, [8], []⟩,
    ⟨some 6, .mv (.tmp 11), none, [11], []⟩,
    ⟨some 7, .mv (.tmp 12), none, [12], []⟩] [1, 6, 7])
(.seq (.seq (.reg false [⟨some 13, .mv (.tmp 7), none, [7], []⟩,
    ⟨some 14, .isnil false .nilIface (.tmp 13), none, [13], []⟩,
    ⟨some 15, .mv (.tmp 14), none, [14], []⟩,
    ⟨some 16, .mv (.tmp 6), some (15, true), [6, 15], []⟩,
    ⟨some 17, .mv (.tmp 1), some (15, true), [1, 15], []⟩,
    ⟨some 18, .bin .gtr (.tmp 16) (.tmp 17), some (15, true), [16, 17, 15], []⟩,
    ⟨some 19, .pick (.tmp 15) (.tmp 18) (.const (.bool false)), none, [15, 18], []⟩] [6, 7, 19])
(.cond (.tmp 19)
(.reg false [⟨some 20, .build [(.int .i64 (0))] [(0, 1, (.const (.int .i64 (3))))], none, [], []⟩,
    ⟨some 21, .mkif 323 (.tmp 20), none, [20], []⟩,
    ⟨some 7, .mv (.tmp 21), none, [21], []⟩] [6, 7])
.skip))
(.seq (.reg false [⟨some 22, .mv (.tmp 6), none, [6], []⟩,
    ⟨some 23, .mv (.tmp 7), none, [7], []⟩,
    ⟨some 4, .mv (.tmp 22), none, [22], []⟩,
    ⟨some 5, .mv (.tmp 23), none, [23], []⟩] [4, 5])
.ret))))
theorem ok_241 : FnOk Tryz.prog 241 24 ac_241 [.tmp 4, .tmp 5] := ⟨Tryz.f241, Tryz.func241, by kernel_rfl, by kernel_rfl, by kernel_rfl, by kernel_rfl, by kernel_rfl⟩
def ac_242 : AC :=
(.seq (.reg false [⟨some 2, .mv (.const (.int .u64 (0))), none, [], []⟩,
    ⟨some 3, .mv (.const .nilIface), none, [], []⟩] [0])
(.seq (.reg false [⟨some 4, .mv (.const (.int .u64 (0))), none, [], []⟩] [0, 4])
(.seq (.reg false [⟨some 5, .mv (.const (.int .i64 (0))), none, [], []⟩] [0, 4, 5])
(.block 0 (.loop (.seq (.block 1 (.seq (.reg false [⟨some 11, .mv (.tmp 0), none, [0], []⟩,
    ⟨some 12, .call 211 [(.tmp 11)], none, [11], []⟩,
    ⟨some 10, .mv (.tmp 12), none, [12], []⟩,
    ⟨some 13, .ext 0 (.tmp 10), none, [10], []⟩,
    ⟨some 14, .ext 1 (.tmp 10), none, [10], []⟩,
    ⟨some 6, .mv (.tmp 13), none, [13], []⟩,
    ⟨some 7, .mv (.tmp 14), none, [14], []⟩] [0, 4, 5, 6, 7])
(.seq (.block 2 (.seq (.reg false [⟨some 16, .mv (.tmp 7), none, [7], []⟩,
    ⟨some 17, .isnil true .nilIface (.tmp 16), none, [16], []⟩,
    ⟨some 15, .mv (.tmp 17), none, [17], []⟩] [0, 4, 5, 6, 7, 15])
(.cond (.tmp 15)
(.seq (.reg false [⟨some 18, .mv (.tmp 7), none, [7], []⟩,
    ⟨some 2, .mv (.const (.int .u64 (0))), none, [], []⟩,
    ⟨some 3, .mv (.tmp 18), none, [18], []⟩] [2, 3])
.ret)
(.seq (.seq (.reg false [⟨some 20, .mv (.tmp 5), none, [5], []⟩,
    ⟨some 21, .bin .eql (.tmp 20) (.const (.int .i64 (63))), none, [20], []⟩,
    ⟨some 22, .mv (.tmp 21), none, [21], []⟩,
    ⟨some 23, .mv (.tmp 6), some (22, true), [6, 22], []⟩,
    ⟨some 24, .bin .gtr (.tmp 23) (.const (.int .i64 (1))), some (22, true), [23, 22], []⟩,
    ⟨some 25, .pick (.tmp 22) (.tmp 24) (.const (.bool false)), none, [22, 24], []⟩,
    ⟨some 19, .mv (.tmp 25), none, [25], []⟩] [0, 4, 5, 6, 19])
(.cond (.tmp 19)
.skip
(.reg false [⟨some 26, .mv (.tmp 5), none, [5], []⟩,
    ⟨some 27, .bin .gtr (.tmp 26) (.const (.int .i64 (0))), none, [26], []⟩,
    ⟨some 28, .mv (.tmp 27), none, [27], []⟩,
    ⟨some 29, .mv (.tmp 6), some (28, true), [6, 28], []⟩,
    ⟨some 30, .bin .eql (.tmp 29) (.const (.int .i64 (0))), some (28, true), [29, 28], []⟩,
    ⟨some 31, .pick (.tmp 28) (.tmp 30) (.const (.bool false)), none, [28, 30], []⟩,
    ⟨some 19, .mv (.tmp 31), none, [31], []⟩] [0, 4, 5, 6, 19])))
(.cond (.tmp 19)
(.seq (.reg false [⟨some 32, .build [(.int .i64 (0))] [(0, 1, (.const (.int .i64 (4))))], none, [], []⟩,
    ⟨some 33, .mkif 323 (.tmp 32), none, [32], []⟩,
    ⟨some 2, .mv (.const (.int .u64 (0))), none, [], []⟩,
    ⟨some 3, .mv (.tmp 33), none, [33], []⟩] [2, 3])
.ret)
.skip)))))
(.seq (.reg false [⟨some 34, .mv (.tmp 4), none, [4], []⟩,
    ⟨some 35, .mv (.tmp 6), none, [6], []⟩,
    ⟨some 36, .bin .and (.tmp 35) (.const (.int .i64 (127))), none, [35], []⟩,
    ⟨some 37, .conv .u64 (.tmp 36), none, [36], []⟩,
    ⟨some 38, .mv (.tmp 5), none, [5], []⟩,
    ⟨some 39, .bin .shl (.tmp 37) (.tmp 38), none, [37, 38], []⟩,
    ⟨some 40, .bin .or (.tmp 34) (.tmp 39), none, [34, 39], []⟩,
    ⟨some 4, .mv (.tmp 40), none, [40], []⟩] [0, 4, 5, 6])
(.seq (.reg false [⟨some 41, .mv (.tmp 6), none, [6], []⟩,
    ⟨some 42, .bin .lss (.tmp 41) (.const (.int .i64 (128))), none, [41], []⟩] [0, 4, 5, 42])
(.cond (.tmp 42)
(.seq (.reg false [⟨some 43, .mv (.tmp 4), none, [4], []⟩,
    ⟨some 2, .mv (.tmp 43), none, [43], []⟩,
    ⟨some 3, .mv (.const .nilIface), none, [], []⟩] [2, 3])
.ret)
.skip))))))
(.reg false [⟨some 8, .mv (.tmp 5), none, [5], []⟩,
    ⟨some 9, .bin .add (.tmp 8) (.const (.int .i64 (7))), none, [8], []⟩,
    ⟨some 5, .mv (.tmp 9), none, [9], []⟩] [0, 4, 5])))))))
theorem ok_242 : FnOk Tryz.prog 242 44 ac_242 [.tmp 2, .tmp 3] := ⟨Tryz.f242, Tryz.func242, by kernel_rfl, by kernel_rfl, by kernel_rfl, by kernel_rfl, by kernel_rfl⟩
def ac_243 : AC :=
(.seq (.reg false [⟨some 2, .mv (.const (.slice none 0 0)), none, [], []⟩,
    ⟨some 3, .mv (.const .nilIface), none, [], []⟩] [0])
(.seq (.reg false [⟨some 8, .mv (.tmp 0), none, [0], []⟩,
    ⟨some 9, .call 242 [(.tmp 8)], none, [8], []⟩,
    ⟨some 7, .mv (.tmp 9), none, [9], []⟩,
    ⟨some 10, .ext 0 (.tmp 7), none, [7], []⟩,
    ⟨some 11, .ext 1 (.tmp 7), none, [7], []⟩,
    ⟨some 4, .mv (.tmp 10), none, [10], []⟩,
    ⟨some 5, .mv (.tmp 11), none, [11], []⟩] [0, 4, 5])
(.seq (.seq (.reg false [⟨some 12, .mv (.tmp 5), none, [5], []⟩,
    ⟨some 13, .isnil true .nilIface (.tmp 12), none, [12], []⟩] [0, 4, 5, 13])
(.cond (.tmp 13)
(.seq (.reg false [⟨some 14, .mv (.tmp 5), none, [5], []⟩,
    ⟨some 2, .mv (.const (.slice none 0 0)), none, [], []⟩,
    ⟨some 3, .mv (.tmp 14), none, [14], []⟩] [2, 3])
.ret)
.skip))
(.seq (.seq (.reg false [⟨some 15, .mv (.tmp 4), none, [4], []⟩,
    ⟨some 16, .bin .gtr (.tmp 15) (.const (.int .u64 (4096))), none, [15], []⟩] [0, 4, 16])
(.cond (.tmp 16)
(.seq (.reg false [⟨some 17, .build [(.int .i64 (0))] [(0, 1, (.const (.int .i64 (5))))], none, [], []⟩,
    ⟨some 18, .mkif 323 (.tmp 17), none, [17], []⟩,
    ⟨some 2, .mv (.const (.slice none 0 0)), none, [], []⟩,
    ⟨some 3, .mv (.tmp 18), none, [18], []⟩] [2, 3])
.ret)
.skip))
(.seq (.reg false [⟨some 20, .mv (.tmp 0), none, [0], []⟩,
    ⟨some 21, .mv (.tmp 4), none, [4], []⟩,
    ⟨some 22, .conv .i64 (.tmp 21), none, [21], []⟩,
    ⟨some 23, .call 240 [(.tmp 20), (.tmp 22)], none, [20, 22], []⟩,
    ⟨some 19, .mv (.tmp 23), none, [23], []⟩,
    ⟨some 24, .ext 0 (.tmp 19), none, [19], []⟩,
    ⟨some 25, .ext 1 (.tmp 19), none, [19], []⟩,
    ⟨some 6, .mv (.tmp 24), none, [24], []⟩,
    ⟨some 5, .mv (.tmp 25), none, [25], []⟩] [5, 6])
(.seq (.reg false [⟨some 26, .mv (.tmp 6), none, [6], []⟩,
    ⟨some 27, .call 108 [(.tmp 26)], none, [26], []⟩,
    ⟨some 28, .mv (.tmp 5), none, [5], []⟩,
    ⟨some 2, .mv (.tmp 27), none, [27], []⟩,
    ⟨some 3, .mv (.tmp 28), none, [28], []⟩] [2, 3])
.ret))))))
theorem ok_243 : FnOk Tryz.prog 243 29 ac_243 [.tmp 2, .tmp 3] := ⟨Tryz.f243, Tryz.func243, by kernel_rfl, by kernel_rfl, by kernel_rfl, by kernel_rfl, by kernel_rfl⟩
def ac_248 : AC :=
(.seq (.reg false [⟨some 4, .mv (.const (.bool false)), none, [], []⟩] [0, 1])
(.seq (.reg false [⟨some 5, .mv (.tmp 0), none, [0], []⟩,
    ⟨some 6, .len true (.tmp 5), none, [5], []⟩,
    ⟨some 7, .mv (.tmp 1), none, [1], []⟩,
    ⟨some 8, .len true (.tmp 7), none, [7], []⟩,
    ⟨some 9, .bin .geq (.tmp 6) (.tmp 8), none, [6, 8], []⟩,
    ⟨some 10, .mv (.tmp 9), none, [9], []⟩,
    ⟨some 11, .mv (.tmp 0), some (10, true), [0, 10], []⟩,
    ⟨some 12, .mv (.tmp 1), some (10, true), [1, 10], []⟩,
    ⟨some 13, .len true (.tmp 12), some (10, true), [12, 10], []⟩,
    ⟨some 14, .sslice (.tmp 11) none (some (.tmp 13)), some (10, true), [11, 13, 10], []⟩,
    ⟨some 15, .mv (.tmp 1), some (10, true), [1, 10], []⟩,
    ⟨some 16, .bin .eql (.tmp 14) (.tmp 15), some (10, true), [14, 15, 10], []⟩,
    ⟨some 17, .pick (.tmp 10) (.tmp 16) (.const (.bool false)), none, [10, 16], []⟩,
    ⟨some 4, .mv (.tmp 17), none, [17], []⟩] [4])
.ret))
theorem ok_248 : FnOk Tryz.prog 248 18 ac_248 [.tmp 4] := ⟨Tryz.f248, Tryz.func248, by kernel_rfl, by kernel_rfl, by kernel_rfl, by kernel_rfl, by kernel_rfl⟩
def ac_251 : AC :=
(.seq (.reg false [⟨some 4, .mv (.const (.int .i64 (0))), none, [], []⟩] [0, 1])
(.seq (.reg false [⟨some 5, .mv (.tmp 0), none, [0], []⟩,
    ⟨some 6, .mv (.tmp 1), none, [1], []⟩,
    ⟨some 7, .call 281 [(.tmp 5), (.tmp 6)], none, [5, 6], []⟩,
    ⟨some 4, .mv (.tmp 7), none, [7], []⟩] [4])
.ret))
theorem ok_251 : FnOk Tryz.prog 251 8 ac_251 [.tmp 4] := ⟨Tryz.f251, Tryz.func251, by kernel_rfl, by kernel_rfl, by kernel_rfl, by kernel_rfl, by kernel_rfl⟩
def ac_252 : AC :=
(.seq (.reg false [⟨some 4, .mv (.const (.bool false)), none, [], []⟩] [0, 1])
(.seq (.reg false [⟨some 5, .mv (.tmp 0), none, [0], []⟩,
    ⟨some 6, .mv (.tmp 1), none, [1], []⟩,
    ⟨some 7, .call 251 [(.tmp 5), (.tmp 6)], none, [5, 6], []⟩,
    ⟨some 8, .bin .geq (.tmp 7) (.const (.int .i64 (0))), none, [7], []⟩,
    ⟨some 4, .mv (.tmp 8), none, [8], []⟩] [4])
.ret))
theorem ok_252 : FnOk Tryz.prog 252 9 ac_252 [.tmp 4] := ⟨Tryz.f252, Tryz.func252, by kernel_rfl, by kernel_rfl, by kernel_rfl, by kernel_rfl, by kernel_rfl⟩
def ac_253 : AC :=
(.seq (.reg false [⟨some 6, .mv (.const (.int .i64 (0))), none, [], []⟩,
    ⟨some 7, .mv (.const (.bool false)), none, [], []⟩] [0, 1, 2])
(.seq (.reg false [⟨some 12, .mv (.tmp 0), none, [0], []⟩,
    ⟨some 13, .len false (.tmp 12), none, [12], []⟩,
    ⟨some 8, .mv (.tmp 13), none, [13], []⟩] [0, 1, 2, 8])
(.seq (.reg false [⟨some 14, .mv (.tmp 8), none, [8], []⟩,
    ⟨some 9, .mv (.const (.int .i64 (0))), none, [], []⟩,
    ⟨some 10, .mv (.tmp 14), none, [14], []⟩] [0, 1, 2, 8, 9, 10])
(.seq (.block 0 (.loop (.seq (.seq (.reg false [⟨some 15, .mv (.tmp 9), none, [9], []⟩,
    ⟨some 16, .mv (.tmp 10), none, [10], []⟩,
    ⟨some 17, .bin .lss (.tmp 15) (.tmp 16), none, [15, 16], []⟩] [0, 1, 2, 8, 9, 10, 17])
(.cond (.tmp 17)
.skip
(.exit 0)))
(.block 1 (.seq (.reg false [⟨some 18, .mv (.tmp 9), none, [9], []⟩,
    ⟨some 19, .mv (.tmp 10), none, [10], []⟩,
    ⟨some 20, .bin .add (.tmp 18) (.tmp 19), none, [18, 19], []⟩,
    ⟨some 21, .conv .u64 (.tmp 20), none, [20], []⟩,
    ⟨some 22, .bin .shr (.tmp 21) (.const (.int .u64 (1))), none, [21], []⟩,
    ⟨some 23, .conv .i64 (.tmp 22), none, [22], []⟩,
    ⟨some 11, .mv (.tmp 23), none, [23], []⟩] [0, 1, 2, 8, 9, 10, 11])
(.seq (.reg false [⟨some 24, .mv (.tmp 2), none, [2], []⟩,
    ⟨some 25, .mv (.tmp 0), none, [0], []⟩,
    ⟨some 26, .mv (.tmp 11), none, [11], []⟩,
    ⟨some 27, .idx 2 (.tmp 25) (.tmp 26), none, [25, 26], []⟩,
    ⟨some 28, .load true 2 (.tmp 27), none, [27], []⟩,
    ⟨some 29, .mv (.tmp 1), none, [1], []⟩,
    ⟨some 30, .callv (.tmp 24) [(.tmp 28), (.tmp 29)], none, [24, 28, 29], []⟩,
    ⟨some 31, .bin .lss (.tmp 30) (.const (.int .i64 (0))), none, [30], []⟩] [0, 1, 2, 8, 9, 10, 11, 31])
(.cond (.tmp 31)
(.reg false [⟨some 32, .mv (.tmp 11), none, [11], []⟩,
    ⟨some 33, .bin .add (.tmp 32) (.const (.int .i64 (1))), none, [32], []⟩,
    ⟨some 9, .mv (.tmp 33), none, [33], []⟩] [0, 1, 2, 8, 9, 10])
(.reg false [⟨some 34, .mv (.tmp 11), none, [11], []⟩,
    ⟨some 10, .mv (.tmp 34), none, [34], []⟩] [0, 1, 2, 8, 9, 10]))))))))
(.seq (.reg false [⟨some 35, .mv (.tmp 9), none, [9], []⟩,
    ⟨some 36, .mv (.tmp 9), none, [9], []⟩,
    ⟨some 37, .mv (.tmp 8), none, [8], []⟩,
    ⟨some 38, .bin .lss (.tmp 36) (.tmp 37), none, [36, 37], []⟩,
    ⟨some 39, .mv (.tmp 38), none, [38], []⟩,
    ⟨some 40, .mv (.tmp 2), some (39, true), [2, 39], []⟩,
    ⟨some 41, .mv (.tmp 0), some (39, true), [0, 39], []⟩,
    ⟨some 42, .mv (.tmp 9), some (39, true), [9, 39], []⟩,
    ⟨some 43, .idx 2 (.tmp 41) (.tmp 42), some (39, true), [41, 42, 39], []⟩,
    ⟨some 44, .load true 2 (.tmp 43), some (39, true), [43, 39], []⟩,
    ⟨some 45, .mv (.tmp 1), some (39, true), [1, 39], []⟩,
    ⟨some 46, .callv (.tmp 40) [(.tmp 44), (.tmp 45)], some (39, true), [40, 44, 45, 39], []⟩,
    ⟨some 47, .bin .eql (.tmp 46) (.const (.int .i64 (0))), some (39, true), [46, 39], []⟩,
    ⟨some 48, .pick (.tmp 39) (.tmp 47) (.const (.bool false)), none, [39, 47], []⟩,
    ⟨some 6, .mv (.tmp 35), none, [35], []⟩,
    ⟨some 7, .mv (.tmp 48), none, [48], []⟩] [6, 7])
.ret)))))
theorem ok_253 : FnOk Tryz.prog 253 49 ac_253 [.tmp 6, .tmp 7] := ⟨Tryz.f253, Tryz.func253, by kernel_rfl, by kernel_rfl, by kernel_rfl, by kernel_rfl, by kernel_rfl⟩
def ac_254 : AC :=
(.seq (.reg false [⟨some 2, .box 134 (.tmp 0), none, [0], []⟩,
    ⟨some 4, .mv (.const (.int .i64 (0))), none, [], []⟩] [1, 2])
(.seq (.reg false [⟨some 5, .foff 0 (.tmp 2), none, [2], []⟩,
    ⟨some 6, .load false 1 (.tmp 5), none, [5], []⟩,
    ⟨some 7, .mv (.tmp 1), none, [1], []⟩,
    ⟨some 8, .call 255 [(.tmp 6), (.tmp 7)], none, [6, 7], []⟩,
    ⟨some 4, .mv (.tmp 8), none, [8], []⟩] [4])
.ret))
theorem ok_254 : FnOk Tryz.prog 254 9 ac_254 [.tmp 4] := ⟨Tryz.f254, Tryz.func254, by kernel_rfl, by kernel_rfl, by kernel_rfl, by kernel_rfl, by kernel_rfl⟩
def ac_255 : AC :=
(.seq (.reg false [⟨some 4, .mv (.const (.int .i64 (0))), none, [], []⟩] [0, 1])
(.seq (.reg false [⟨some 7, .mv (.tmp 0), none, [0], []⟩,
    ⟨some 8, .call 282 [(.tmp 7)], none, [7], []⟩,
    ⟨some 5, .mv (.tmp 8), none, [8], []⟩] [0, 1, 5])
(.seq (.reg false [⟨some 9, .mv (.tmp 1), none, [1], []⟩,
    ⟨some 10, .call 282 [(.tmp 9)], none, [9], []⟩,
    ⟨some 6, .mv (.tmp 10), none, [10], []⟩] [0, 1, 5, 6])
(.seq (.seq (.reg false [⟨some 11, .mv (.tmp 5), none, [5], []⟩] [0, 1, 6, 11])
(.cond (.tmp 11)
(.seq (.seq (.reg false [⟨some 12, .mv (.tmp 6), none, [6], []⟩] [12])
(.cond (.tmp 12)
(.seq (.reg false [⟨some 4, .mv (.const (.int .i64 (0))), none, [], []⟩] [4])
.ret)
.skip))
(.seq (.reg false [⟨some 4, .mv (.const (.int .i64 (-1))), none, [], []⟩] [4])
.ret))
.skip))
(.seq (.seq (.reg false [⟨some 13, .mv (.tmp 6), none, [6], []⟩] [0, 1, 13])
(.cond (.tmp 13)
(.seq (.reg false [⟨some 4, .mv (.const (.int .i64 (1))), none, [], []⟩] [4])
.ret)
.skip))
(.seq (.seq (.reg false [⟨some 14, .mv (.tmp 0), none, [0], []⟩,
    ⟨some 15, .mv (.tmp 1), none, [1], []⟩,
    ⟨some 16, .bin .lss (.tmp 14) (.tmp 15), none, [14, 15], []⟩] [0, 1, 16])
(.cond (.tmp 16)
(.seq (.reg false [⟨some 4, .mv (.const (.int .i64 (-1))), none, [], []⟩] [4])
.ret)
.skip))
(.seq (.seq (.reg false [⟨some 17, .mv (.tmp 0), none, [0], []⟩,
    ⟨some 18, .mv (.tmp 1), none, [1], []⟩,
    ⟨some 19, .bin .gtr (.tmp 17) (.tmp 18), none, [17, 18], []⟩] [19])
(.cond (.tmp 19)
(.seq (.reg false [⟨some 4, .mv (.const (.int .i64 (1))), none, [], []⟩] [4])
.ret)
.skip))
(.seq (.reg false [⟨some 4, .mv (.const (.int .i64 (0))), none, [], []⟩] [4])
.ret))))))))
theorem ok_255 : FnOk Tryz.prog 255 20 ac_255 [.tmp 4] := ⟨Tryz.f255, Tryz.func255, by kernel_rfl, by kernel_rfl, by kernel_rfl, by kernel_rfl, by kernel_rfl⟩
def ac_258 : AC :=
(.seq (.reg false [⟨some 4, .mv (.const (.slice none 0 0)), none, [], []⟩] [0, 1])
(.seq (.block 0 (.loop (.seq (.seq (.reg false [⟨some 5, .mv (.tmp 0), none, [0], []⟩,
    ⟨some 6, .len false (.tmp 5), none, [5], []⟩,
    ⟨some 7, .bin .gtr (.tmp 6) (.const (.int .i64 (0))), none, [6], []⟩,
    ⟨some 8, .mv (.tmp 7), none, [7], []⟩,
    ⟨some 9, .mv (.tmp 0), some (8, true), [0, 8], []⟩,
    ⟨some 10, .idx 1 (.tmp 9) (.const (.int .i64 (0))), some (8, true), [9, 8], []⟩,
    ⟨some 11, .load false 1 (.tmp 10), some (8, true), [10, 8], []⟩,
    ⟨some 12, .mv (.tmp 1), some (8, true), [1, 8], []⟩,
    ⟨some 13, .bin .eql (.tmp 11) (.tmp 12), some (8, true), [11, 12, 8], []⟩,
    ⟨some 14, .pick (.tmp 8) (.tmp 13) (.const (.bool false)), none, [8, 13], []⟩] [0, 1, 14])
(.cond (.tmp 14)
.skip
(.exit 0)))
(.block 1 (.reg false [⟨some 15, .mv (.tmp 0), none, [0], []⟩,
    ⟨some 16, .slice 1 (.tmp 15) (some (.const (.int .i64 (1)))) none, none, [15], []⟩,
    ⟨some 0, .mv (.tmp 16), none, [16], []⟩] [0, 1])))))
(.seq (.seq (.reg false [⟨some 17, .mv (.tmp 0), none, [0], []⟩,
    ⟨some 18, .len false (.tmp 17), none, [17], []⟩,
    ⟨some 19, .bin .eql (.tmp 18) (.const (.int .i64 (0))), none, [18], []⟩] [0, 19])
(.cond (.tmp 19)
(.seq (.reg false [⟨some 4, .mv (.const (.slice none 0 0)), none, [], []⟩] [4])
.ret)
.skip))
(.seq (.reg false [⟨some 20, .mv (.tmp 0), none, [0], []⟩,
    ⟨some 4, .mv (.tmp 20), none, [20], []⟩] [4])
.ret))))
theorem ok_258 : FnOk Tryz.prog 258 21 ac_258 [.tmp 4] := ⟨Tryz.f258, Tryz.func258, by kernel_rfl, by kernel_rfl, by kernel_rfl, by kernel_rfl, by kernel_rfl⟩
def ac_259 : AC :=
(.seq (.reg false [⟨some 4, .mv (.const (.slice none 0 0)), none, [], []⟩] [0, 1])
(.seq (.block 0 (.loop (.seq (.seq (.reg false [⟨some 5, .mv (.tmp 0), none, [0], []⟩,
    ⟨some 6, .len false (.tmp 5), none, [5], []⟩,
    ⟨some 7, .bin .gtr (.tmp 6) (.const (.int .i64 (0))), none, [6], []⟩,
    ⟨some 8, .mv (.tmp 7), none, [7], []⟩,
    ⟨some 9, .mv (.tmp 0), some (8, true), [0, 8], []⟩,
    ⟨some 10, .mv (.tmp 0), some (8, true), [0, 8], []⟩,
    ⟨some 11, .len false (.tmp 10), some (8, true), [10, 8], []⟩,
    ⟨some 12, .bin .sub (.tmp 11) (.const (.int .i64 (1))), some (8, true), [11, 8], []⟩,
    ⟨some 13, .idx 1 (.tmp 9) (.tmp 12), some (8, true), [9, 12, 8], []⟩,
    ⟨some 14, .load false 1 (.tmp 13), some (8, true), [13, 8], []⟩,
    ⟨some 15, .mv (.tmp 1), some (8, true), [1, 8], []⟩,
    ⟨some 16, .bin .eql (.tmp 14) (.tmp 15), some (8, true), [14, 15, 8], []⟩,
    ⟨some 17, .pick (.tmp 8) (.tmp 16) (.const (.bool false)), none, [8, 16], []⟩] [0, 1, 17])
(.cond (.tmp 17)
.skip
(.exit 0)))
(.block 1 (.reg false [⟨some 18, .mv (.tmp 0), none, [0], []⟩,
    ⟨some 19, .mv (.tmp 0), none, [0], []⟩,
    ⟨some 20, .len false (.tmp 19), none, [19], []⟩,
    ⟨some 21, .bin .sub (.tmp 20) (.const (.int .i64 (1))), none, [20], []⟩,
    ⟨some 22, .slice 1 (.tmp 18) none (some (.tmp 21)), none, [18, 21], []⟩,
    ⟨some 0, .mv (.tmp 22), none, [22], []⟩] [0, 1])))))
(.seq (.reg false [⟨some 23, .mv (.tmp 0), none, [0], []⟩,
    ⟨some 4, .mv (.tmp 23), none, [23], []⟩] [4])
.ret)))
theorem ok_259 : FnOk Tryz.prog 259 24 ac_259 [.tmp 4] := ⟨Tryz.f259, Tryz.func259, by kernel_rfl, by kernel_rfl, by kernel_rfl, by kernel_rfl, by kernel_rfl⟩
end Go.Proofs.YtonglhkiobibgaaGreatDoor
namespace Go.Proofs.YtonglhkiobibgaaGreatDoor
set_option maxRecDepth 100000
def ac_275 : AC :=
(.seq (.reg false [⟨some 0, .new 399 [(.int .u32 (0)), (.int .u32 (0)), (.int .u32 (0)), (.int .u32 (0)), (.int .u32 (0)), (.int .u32 (0)), (.int .u32 (0)), (.int .u32 (0)), (.int .u32 (0)), (.int .u32 (0)), (.int .u32 (0)), (.int .u32 (0)), (.int .u32 (0)), (.int .u32 (0)), (.int .u32 (0)), (.int .u32 (0))], none, [], []⟩] [0])
(.seq (.reg false [⟨some 1, .new 399 [(.int .u32 (0)), (.int .u32 (0)), (.int .u32 (0)), (.int .u32 (0)), (.int .u32 (0)), (.int .u32 (0)), (.int .u32 (0)), (.int .u32 (0)), (.int .u32 (0)), (.int .u32 (0)), (.int .u32 (0)), (.int .u32 (0)), (.int .u32 (0)), (.int .u32 (0)), (.int .u32 (0)), (.int .u32 (0))], none, [], []⟩] [0, 1])
(.seq (.seq (.reg false [⟨some 4, .mv (.const (.int .i64 (0))), none, [], []⟩] [0, 1, 4])
(.block 0 (.loop (.seq (.reg false [⟨some 5, .bin .lss (.tmp 4) (.const (.int .i64 (16))), none, [4], []⟩] [0, 1, 4, 5])
(.seq (.cond (.tmp 5)
.skip
(.exit 0))
(.seq (.block 1 (.seq (.reg false [⟨some 6, .mv (.tmp 4), none, [4], []⟩,
    ⟨some 2, .mv (.tmp 6), none, [6], []⟩] [0, 1, 2, 4])
(.seq (.reg false [⟨some 7, .mv (.tmp 2), none, [2], []⟩,
    ⟨some 8, .conv .u32 (.tmp 7), none, [7], []⟩,
    ⟨some 3, .mv (.tmp 8), none, [8], []⟩] [0, 1, 2, 3, 4])
(.seq (.seq (.reg false [⟨some 9, .mv (.const (.int .i64 (0))), none, [], []⟩] [0, 1, 2, 3, 4, 9])
(.block 2 (.loop (.seq (.reg false [⟨some 10, .bin .lss (.tmp 9) (.const (.int .i64 (4))), none, [9], []⟩] [0, 1, 2, 3, 4, 9, 10])
(.seq (.cond (.tmp 10)
.skip
(.exit 2))
(.seq (.block 3 (.reg false [⟨some 11, .mv (.tmp 3), none, [3], []⟩,
    ⟨some 12, .bin .shr (.tmp 11) (.const (.int .u64 (1))), none, [11], []⟩,
    ⟨some 13, .mv (.tmp 3), none, [3], []⟩,
    ⟨some 14, .bin .and (.tmp 13) (.const (.int .u32 (1))), none, [13], []⟩,
    ⟨some 15, .un .neg (.tmp 14), none, [14], []⟩,
    ⟨some 16, .bin .and (.const (.int .u32 (3988292384))) (.tmp 15), none, [15], []⟩,
    ⟨some 17, .bin .xor (.tmp 12) (.tmp 16), none, [12, 16], []⟩,
    ⟨some 3, .mv (.tmp 17), none, [17], []⟩] [0, 1, 2, 3, 4, 9]))
(.reg false [⟨some 18, .bin .add (.tmp 9) (.const (.int .i64 (1))), none, [9], []⟩,
    ⟨some 9, .mv (.tmp 18), none, [18], []⟩] [0, 1, 2, 3, 4, 9])))))))
(.reg false [⟨some 19, .mv (.tmp 2), none, [2], []⟩,
    ⟨some 20, .mv (.tmp 3), none, [3], []⟩,
    ⟨some 21, .aidx 1 16 (.tmp 1) (.tmp 19), none, [1, 19], []⟩,
    ⟨none, .store 1 (.tmp 21) (.tmp 20), none, [21, 20], []⟩] [0, 1, 4])))))
(.reg false [⟨some 22, .bin .add (.tmp 4) (.const (.int .i64 (1))), none, [4], []⟩,
    ⟨some 4, .mv (.tmp 22), none, [22], []⟩] [0, 1, 4])))))))
(.seq (.reg false [⟨some 23, .load true 16 (.tmp 1), none, [1], []⟩,
    ⟨none, .store 16 (.tmp 0) (.tmp 23), none, [0, 23], []⟩] [0])
.ret))))
theorem ok_275 : FnOk Tryz.prog 275 24 ac_275 [.cell 0 true 16] := ⟨Tryz.f275, Tryz.func275, by kernel_rfl, by kernel_rfl, by kernel_rfl, by kernel_rfl, by kernel_rfl⟩
def ac_281 : AC :=
(.seq (.reg false [⟨some 4, .mv (.const (.int .i64 (0))), none, [], []⟩] [0, 1])
(.seq (.reg false [⟨some 14, .mv (.tmp 1), none, [1], []⟩,
    ⟨some 15, .len true (.tmp 14), none, [14], []⟩,
    ⟨some 5, .mv (.tmp 15), none, [15], []⟩] [0, 1, 5])
(.seq (.block 0 (.seq (.reg false [⟨some 17, .mv (.tmp 5), none, [5], []⟩,
    ⟨some 18, .bin .eql (.tmp 17) (.const (.int .i64 (0))), none, [17], []⟩,
    ⟨some 19, .mv (.tmp 18), none, [18], []⟩,
    ⟨some 20, .mv (.tmp 1), some (19, false), [1, 19], []⟩,
    ⟨some 21, .mv (.tmp 0), some (19, false), [0, 19], []⟩,
    ⟨some 22, .bin .eql (.tmp 20) (.tmp 21), some (19, false), [20, 21, 19], []⟩,
    ⟨some 23, .pick (.tmp 19) (.const (.bool true)) (.tmp 22), none, [19, 22], []⟩,
    ⟨some 16, .mv (.tmp 23), none, [23], []⟩] [0, 1, 5, 16])
(.cond (.tmp 16)
(.seq (.reg false [⟨some 4, .mv (.const (.int .i64 (0))), none, [], []⟩] [4])
.ret)
(.seq (.reg false [⟨some 25, .mv (.tmp 5), none, [5], []⟩,
    ⟨some 26, .bin .eql (.tmp 25) (.const (.int .i64 (1))), none, [25], []⟩,
    ⟨some 24, .mv (.tmp 26), none, [26], []⟩] [0, 1, 5, 24])
(.cond (.tmp 24)
(.seq (.reg false [⟨some 27, .mv (.tmp 0), none, [0], []⟩,
    ⟨some 28, .mv (.tmp 1), none, [1], []⟩,
    ⟨some 29, .sidx (.tmp 28) (.const (.int .i64 (0))), none, [28], []⟩,
    ⟨some 30, .call 298 [(.tmp 27), (.tmp 29)], none, [27, 29], []⟩,
    ⟨some 4, .mv (.tmp 30), none, [30], []⟩] [4])
.ret)
(.seq (.reg false [⟨some 32, .mv (.tmp 5), none, [5], []⟩,
    ⟨some 33, .mv (.tmp 0), none, [0], []⟩,
    ⟨some 34, .len true (.tmp 33), none, [33], []⟩,
    ⟨some 35, .bin .geq (.tmp 32) (.tmp 34), none, [32, 34], []⟩,
    ⟨some 31, .mv (.tmp 35), none, [35], []⟩] [0, 1, 5, 31])
(.cond (.tmp 31)
(.seq (.reg false [⟨some 4, .mv (.const (.int .i64 (-1))), none, [], []⟩] [4])
.ret)
(.seq (.reg false [⟨some 37, .mv (.tmp 5), none, [5], []⟩,
    ⟨some 38, .load false 1 (.global 3), none, [], []⟩,
    ⟨some 39, .bin .leq (.tmp 37) (.tmp 38), none, [37, 38], []⟩,
    ⟨some 40, .mv (.tmp 39), none, [39], []⟩,
    ⟨some 41, .mv (.tmp 0), some (40, true), [0, 40], []⟩,
    ⟨some 42, .len true (.tmp 41), some (40, true), [41, 40], []⟩,
    ⟨some 43, .bin .leq (.tmp 42) (.const (.int .i64 (64))), some (40, true), [42, 40], []⟩,
    ⟨some 44, .pick (.tmp 40) (.tmp 43) (.const (.bool false)), none, [40, 43], []⟩,
    ⟨some 36, .mv (.tmp 44), none, [44], []⟩] [0, 1, 5, 36])
(.cond (.tmp 36)
(.seq (.reg false [⟨some 45, .mv (.tmp 0), none, [0], []⟩,
    ⟨some 46, .mv (.tmp 1), none, [1], []⟩,
    ⟨some 47, .call 299 [(.tmp 45), (.tmp 46)], none, [45, 46], []⟩,
    ⟨some 4, .mv (.tmp 47), none, [47], []⟩] [4])
.ret)
.skip)))))))))
(.seq (.reg false [⟨some 48, .mv (.tmp 1), none, [1], []⟩,
    ⟨some 49, .sidx (.tmp 48) (.const (.int .i64 (0))), none, [48], []⟩,
    ⟨some 6, .mv (.tmp 49), none, [49], []⟩] [0, 1, 5, 6])
(.seq (.reg false [⟨some 50, .mv (.tmp 1), none, [1], []⟩,
    ⟨some 51, .sidx (.tmp 50) (.const (.int .i64 (1))), none, [50], []⟩,
    ⟨some 7, .mv (.tmp 51), none, [51], []⟩] [0, 1, 5, 6, 7])
(.seq (.reg false [⟨some 8, .mv (.const (.int .i64 (0))), none, [], []⟩] [0, 1, 5, 6, 7, 8])
(.seq (.reg false [⟨some 52, .mv (.tmp 0), none, [0], []⟩,
    ⟨some 53, .len true (.tmp 52), none, [52], []⟩,
    ⟨some 54, .mv (.tmp 5), none, [5], []⟩,
    ⟨some 55, .bin .sub (.tmp 53) (.tmp 54), none, [53, 54], []⟩,
    ⟨some 56, .bin .add (.tmp 55) (.const (.int .i64 (1))), none, [55], []⟩,
    ⟨some 9, .mv (.tmp 56), none, [56], []⟩] [0, 1, 5, 6, 7, 8, 9])
(.seq (.reg false [⟨some 10, .mv (.const (.int .i64 (0))), none, [], []⟩] [0, 1, 5, 6, 7, 8, 9, 10])
(.seq (.block 1 (.loop (.seq (.seq (.reg false [⟨some 57, .mv (.tmp 8), none, [8], []⟩,
    ⟨some 58, .mv (.tmp 9), none, [9], []⟩,
    ⟨some 59, .bin .lss (.tmp 57) (.tmp 58), none, [57, 58], []⟩] [0, 1, 5, 6, 7, 8, 9, 10, 59])
(.cond (.tmp 59)
.skip
(.exit 1)))
(.block 2 (.seq (.seq (.reg false [⟨some 60, .mv (.tmp 0), none, [0], []⟩,
    ⟨some 61, .mv (.tmp 8), none, [8], []⟩,
    ⟨some 62, .sidx (.tmp 60) (.tmp 61), none, [60, 61], []⟩,
    ⟨some 63, .mv (.tmp 6), none, [6], []⟩,
    ⟨some 64, .bin .neq (.tmp 62) (.tmp 63), none, [62, 63], []⟩] [0, 1, 5, 6, 7, 8, 9, 10, 64])
(.cond (.tmp 64)
(.seq (.reg false [⟨some 65, .mv (.tmp 0), none, [0], []⟩,
    ⟨some 66, .mv (.tmp 8), none, [8], []⟩,
    ⟨some 67, .bin .add (.tmp 66) (.const (.int .i64 (1))), none, [66], []⟩,
    ⟨some 68, .mv (.tmp 9), none, [9], []⟩,
    ⟨some 69, .sslice (.tmp 65) (some (.tmp 67)) (some (.tmp 68)), none, [65, 67, 68], []⟩,
    ⟨some 70, .mv (.tmp 6), none, [6], []⟩,
    ⟨some 71, .call 298 [(.tmp 69), (.tmp 70)], none, [69, 70], []⟩,
    ⟨some 11, .mv (.tmp 71), none, [71], []⟩] [0, 1, 5, 6, 7, 8, 9, 10, 11])
(.seq (.seq (.reg false [⟨some 72, .mv (.tmp 11), none, [11], []⟩,
    ⟨some 73, .bin .lss (.tmp 72) (.const (.int .i64 (0))), none, [72], []⟩] [0, 1, 5, 6, 7, 8, 9, 10, 11, 73])
(.cond (.tmp 73)
(.seq (.reg false [⟨some 4, .mv (.const (.int .i64 (-1))), none, [], []⟩] [4])
.ret)
.skip))
(.reg false [⟨some 74, .mv (.tmp 8), none, [8], []⟩,
    ⟨some 75, .mv (.tmp 11), none, [11], []⟩,
    ⟨some 76, .bin .add (.tmp 75) (.const (.int .i64 (1))), none, [75], []⟩,
    ⟨some 77, .bin .add (.tmp 74) (.tmp 76), none, [74, 76], []⟩,
    ⟨some 8, .mv (.tmp 77), none, [77], []⟩] [0, 1, 5, 6, 7, 8, 9, 10])))
.skip))
(.seq (.seq (.reg false [⟨some 78, .mv (.tmp 0), none, [0], []⟩,
    ⟨some 79, .mv (.tmp 8), none, [8], []⟩,
    ⟨some 80, .bin .add (.tmp 79) (.const (.int .i64 (1))), none, [79], []⟩,
    ⟨some 81, .sidx (.tmp 78) (.tmp 80), none, [78, 80], []⟩,
    ⟨some 82, .mv (.tmp 7), none, [7], []⟩,
    ⟨some 83, .bin .eql (.tmp 81) (.tmp 82), none, [81, 82], []⟩,
    ⟨some 84, .mv (.tmp 83), none, [83], []⟩,
    ⟨some 85, .mv (.tmp 0), some (84, true), [0, 84], []⟩,
    ⟨some 86, .mv (.tmp 8), some (84, true), [8, 84], []⟩,
    ⟨some 87, .mv (.tmp 8), some (84, true), [8, 84], []⟩,
    ⟨some 88, .mv (.tmp 5), some (84, true), [5, 84], []⟩,
    ⟨some 89, .bin .add (.tmp 87) (.tmp 88), some (84, true), [87, 88, 84], []⟩,
    ⟨some 90, .sslice (.tmp 85) (some (.tmp 86)) (some (.tmp 89)), some (84, true), [85, 86, 89, 84], []⟩,
    ⟨some 91, .mv (.tmp 1), some (84, true), [1, 84], []⟩,
    ⟨some 92, .bin .eql (.tmp 90) (.tmp 91), some (84, true), [90, 91, 84], []⟩,
    ⟨some 93, .pick (.tmp 84) (.tmp 92) (.const (.bool false)), none, [84, 92], []⟩] [0, 1, 5, 6, 7, 8, 9, 10, 93])
(.cond (.tmp 93)
(.seq (.reg false [⟨some 94, .mv (.tmp 8), none, [8], []⟩,
    ⟨some 4, .mv (.tmp 94), none, [94], []⟩] [4])
.ret)
.skip))
(.seq (.reg false [⟨some 95, .mv (.tmp 8), none, [8], []⟩,
    ⟨some 96, .bin .add (.tmp 95) (.const (.int .i64 (1))), none, [95], []⟩,
    ⟨some 8, .mv (.tmp 96), none, [96], []⟩] [0, 1, 5, 6, 7, 8, 9, 10])
(.seq (.reg false [⟨some 97, .mv (.tmp 10), none, [10], []⟩,
    ⟨some 98, .bin .add (.tmp 97) (.const (.int .i64 (1))), none, [97], []⟩,
    ⟨some 10, .mv (.tmp 98), none, [98], []⟩] [0, 1, 5, 6, 7, 8, 9, 10])
(.seq (.reg false [⟨some 99, .mv (.tmp 5), none, [5], []⟩,
    ⟨some 100, .load false 1 (.global 3), none, [], []⟩,
    ⟨some 101, .bin .leq (.tmp 99) (.tmp 100), none, [99, 100], []⟩,
    ⟨some 102, .mv (.tmp 101), none, [101], []⟩,
    ⟨some 103, .mv (.tmp 10), some (102, true), [10, 102], []⟩,
    ⟨some 104, .mv (.tmp 8), some (102, true), [8, 102], []⟩,
    ⟨some 105, .call 300 [(.tmp 104)], some (102, true), [104, 102], []⟩,
    ⟨some 106, .bin .gtr (.tmp 103) (.tmp 105), some (102, true), [103, 105, 102], []⟩,
    ⟨some 107, .pick (.tmp 102) (.tmp 106) (.const (.bool false)), none, [102, 106], []⟩] [0, 1, 5, 6, 7, 8, 9, 10, 107])
(.cond (.tmp 107)
(.seq (.reg false [⟨some 108, .mv (.tmp 0), none, [0], []⟩,
    ⟨some 109, .mv (.tmp 8), none, [8], []⟩,
    ⟨some 110, .sslice (.tmp 108) (some (.tmp 109)) none, none, [108, 109], []⟩,
    ⟨some 111, .mv (.tmp 1), none, [1], []⟩,
    ⟨some 112, .call 299 [(.tmp 110), (.tmp 111)], none, [110, 111], []⟩,
    ⟨some 12, .mv (.tmp 112), none, [112], []⟩] [8, 12])
(.seq (.seq (.reg false [⟨some 113, .mv (.tmp 12), none, [12], []⟩,
    ⟨some 114, .bin .geq (.tmp 113) (.const (.int .i64 (0))), none, [113], []⟩] [8, 12, 114])
(.cond (.tmp 114)
(.seq (.reg false [⟨some 115, .mv (.tmp 12), none, [12], []⟩,
    ⟨some 116, .mv (.tmp 8), none, [8], []⟩,
    ⟨some 117, .bin .add (.tmp 115) (.tmp 116), none, [115, 116], []⟩,
    ⟨some 4, .mv (.tmp 117), none, [117], []⟩] [4])
.ret)
.skip))
(.seq (.reg false [⟨some 4, .mv (.const (.int .i64 (-1))), none, [], []⟩] [4])
.ret)))
(.seq (.reg false [⟨some 118, .mv (.tmp 5), none, [5], []⟩,
    ⟨some 119, .load false 1 (.global 3), none, [], []⟩,
    ⟨some 120, .bin .gtr (.tmp 118) (.tmp 119), none, [118, 119], []⟩,
    ⟨some 121, .mv (.tmp 120), none, [120], []⟩,
    ⟨some 122, .mv (.tmp 10), some (121, true), [10, 121], []⟩,
    ⟨some 123, .mv (.tmp 8), some (121, true), [8, 121], []⟩,
    ⟨some 124, .bin .shr (.tmp 123) (.const (.int .u64 (4))), some (121, true), [123, 121], []⟩,
    ⟨some 125, .bin .add (.const (.int .i64 (4))) (.tmp 124), some (121, true), [124, 121], []⟩,
    ⟨some 126, .bin .geq (.tmp 122) (.tmp 125), some (121, true), [122, 125, 121], []⟩,
    ⟨some 127, .pick (.tmp 121) (.tmp 126) (.const (.bool false)), none, [121, 126], []⟩,
    ⟨some 128, .mv (.tmp 127), none, [127], []⟩,
    ⟨some 129, .mv (.tmp 8), some (128, true), [8, 128], []⟩,
    ⟨some 130, .mv (.tmp 9), some (128, true), [9, 128], []⟩,
    ⟨some 131, .bin .lss (.tmp 129) (.tmp 130), some (128, true), [129, 130, 128], []⟩,
    ⟨some 132, .pick (.tmp 128) (.tmp 131) (.const (.bool false)), none, [128, 131], []⟩] [0, 1, 5, 6, 7, 8, 9, 10, 132])
(.cond (.tmp 132)
(.seq (.reg false [⟨some 133, .mv (.tmp 0), none, [0], []⟩,
    ⟨some 134, .mv (.tmp 8), none, [8], []⟩,
    ⟨some 135, .sslice (.tmp 133) (some (.tmp 134)) none, none, [133, 134], []⟩,
    ⟨some 136, .mv (.tmp 1), none, [1], []⟩,
    ⟨some 137, .call 301 [(.tmp 135), (.tmp 136)], none, [135, 136], []⟩,
    ⟨some 13, .mv (.tmp 137), none, [137], []⟩] [8, 13])
(.seq (.seq (.reg false [⟨some 138, .mv (.tmp 13), none, [13], []⟩,
    ⟨some 139, .bin .lss (.tmp 138) (.const (.int .i64 (0))), none, [138], []⟩] [8, 13, 139])
(.cond (.tmp 139)
(.seq (.reg false [⟨some 4, .mv (.const (.int .i64 (-1))), none, [], []⟩] [4])
.ret)
.skip))
(.seq (.reg false [⟨some 140, .mv (.tmp 8), none, [8], []⟩,
    ⟨some 141, .mv (.tmp 13), none, [13], []⟩,
    ⟨some 142, .bin .add (.tmp 140) (.tmp 141), none, [140, 141], []⟩,
    ⟨some 4, .mv (.tmp 142), none, [142], []⟩] [4])
.ret)))
.skip))))))))))))
(.seq (.reg false [⟨some 4, .mv (.const (.int .i64 (-1))), none, [], []⟩] [4])
.ret))))))))))
theorem ok_281 : FnOk Tryz.prog 281 143 ac_281 [.tmp 4] := ⟨Tryz.f281, Tryz.func281, by kernel_rfl, by kernel_rfl, by kernel_rfl, by kernel_rfl, by kernel_rfl⟩
def ac_282 : AC :=
(.seq (.reg false [⟨some 2, .mv (.const (.bool false)), none, [], []⟩] [0])
(.seq (.reg false [⟨some 3, .mv (.tmp 0), none, [0], []⟩,
    ⟨some 4, .mv (.tmp 0), none, [0], []⟩,
    ⟨some 5, .bin .neq (.tmp 3) (.tmp 4), none, [3, 4], []⟩,
    ⟨some 2, .mv (.tmp 5), none, [5], []⟩] [2])
.ret))
theorem ok_282 : FnOk Tryz.prog 282 6 ac_282 [.tmp 2] := ⟨Tryz.f282, Tryz.func282, by kernel_rfl, by kernel_rfl, by kernel_rfl, by kernel_rfl, by kernel_rfl⟩
end Go.Proofs.YtonglhkiobibgaaGreatDoor
