/- Merged texts: Q0, RA, T0, AW, NA, NB, NC, ND, NE, NF, NG, NH, KA, KB, U0, U1, U2, U3, T1, KC, U4, AP, U5, U6, U7, U8, U9, T2, UA, UB, AZ, BD, H0, RB, KM, H1, H2, H3, G0. -/
import Derived.Test.YtonglhkiobibgaaGreatDoorX1
import Derived.WalkKit
import Derived.ProofKit
import Derived.OpenShut
import Derived.ChangeOld
import Derived.SizedLaws
import Derived.Carry
import Derived.Test.YtonglhkiobibgaaGreatDoorProg
import Derived.Test.YtonglhkiobibgaaGreatDoorRows
import Derived.LaidLaws
import Derived.LaidHandle
import Derived.LaidMore
import Derived.Lay
import Derived.SevenTiedAt
import Derived.Stop.Joined
set_option linter.unusedSimpArgs false
set_option linter.unusedVariables false
namespace Go.Proofs.YtonglhkiobibgaaGreatDoor
theorem TT : type_of% (And.intro @SS (And.intro @Option.map_some.{0,0} (And.intro @Option.map_none.{0,0} (And.intro @List.drop_zero.{0} (And.intro @List.take_succ_cons.{0} (And.intro @List.take_zero.{0} (And.intro @List.take_nil.{0} (And.intro @Nat.mul_one (And.intro @Nat.one_mul (And.intro @List.cons_append.{0} (And.intro @List.nil_append.{0} (And.intro @boxA.eq_1 (And.intro @cellsOf.eq_1 (And.intro @cellsOf.eq_2 (And.intro @cellsOf.eq_3 (And.intro @cellsOf.eq_4 (And.intro @cellsOf.eq_5 (And.intro @cellsOf.eq_6 (And.intro @foffA.eq_1 (And.intro @foffA.eq_2 (And.intro @foffA.eq_3 (And.intro @loadA.eq_1 (And.intro @loadA.eq_2 (And.intro @loadA.eq_3 (And.intro @loadA.eq_4 (And.intro @ldA.eq_1 (And.intro @idxA.eq_1 (And.intro @idxA.eq_2 (And.intro @idxA.eq_3 (And.intro @idxA.eq_4 (And.intro @idxA.eq_5 (And.intro @fldA.eq_1 (And.intro @fldA.eq_2 (And.intro @binA.eq_1 (And.intro @binA.eq_2 (And.intro @binA.eq_3 (And.intro @binA.eq_4 (And.intro @binA.eq_5 (And.intro @binVal.eq_1 (And.intro @binVal.eq_2 (And.intro @binVal.eq_3 (And.intro @isSh.eq_1 (And.intro @isSh.eq_2 (And.intro @isSh.eq_3 (And.intro @intVal.eq_1 (And.intro @intVal.eq_2 (And.intro @intVal.eq_3 (And.intro @intVal.eq_4 (And.intro @intVal.eq_5 (And.intro @intVal.eq_6 (And.intro @intVal.eq_7 (And.intro @intVal.eq_8 (And.intro @intVal.eq_9 (And.intro @intVal.eq_10 (And.intro @intVal.eq_11 (And.intro @intVal.eq_12 (And.intro @intVal.eq_13 (And.intro @intVal.eq_14 (And.intro @intVal.eq_15 (And.intro @lenA.eq_1 (And.intro @lenA.eq_2 (And.intro @lenA.eq_3 (And.intro @lenA.eq_4 (And.intro @lenA.eq_5 (And.intro @slenA.eq_1 (And.intro @slenA.eq_2 (And.intro @pickA.eq_1 (And.intro @pickA.eq_2 (And.intro @storeA.eq_1 (And.intro @storeA.eq_2 (And.intro @storeA.eq_3 (And.intro @storeA.eq_4 (And.intro @setN.eq_1 (And.intro @setN.eq_2 (And.intro @getN.eq_1 (And.intro @getN.eq_2 (And.intro @fillA.eq_1 (And.intro @fillA.eq_2 (And.intro @extA.eq_1 (And.intro @extA.eq_2 (And.intro @beqA.eq_1 (And.intro @beqA.eq_2 (And.intro @beqA.eq_3 (And.intro @eqsA.eq_1 (And.intro @eqsA.eq_2 (And.intro @eqsA.eq_3 (And.intro @eqL.eq_1 (And.intro @eqL.eq_2 (And.intro @eqL.eq_3 (And.intro @eqL.eq_4 (And.intro @eqL.eq_5 (And.intro @isnilA.eq_1 (And.intro @isnilA.eq_2 (And.intro @isnilA.eq_3 (And.intro @isnilA.eq_4 (And.intro @isnilA.eq_5 (And.intro @isnilA.eq_6 (And.intro @isnilA.eq_7 (And.intro @isnilA.eq_8 (And.intro @isnilA.eq_9 (And.intro @isnilA.eq_10 (And.intro @unA.eq_1 (And.intro @unA.eq_2 (And.intro @unA.eq_3 (And.intro @unVal.eq_1 (And.intro @unVal.eq_2 (And.intro @unVal.eq_3 (And.intro @unVal.eq_4 (And.intro @unVal.eq_5 (And.intro @unVal.eq_6 (And.intro @convA.eq_1 (And.intro @convA.eq_2 (And.intro @nilA.eq_1 (And.intro @nilA.eq_2 (And.intro @nilA.eq_3 (And.intro @sconvA.eq_1 (And.intro @sconvA.eq_2 (And.intro @b2sA.eq_1 (And.intro @b2sA.eq_2 (And.intro @b2sA.eq_3 (And.intro @b2sA.eq_4 (And.intro @b2sOf.eq_1 (And.intro @bytesOf.eq_1 (And.intro @bytesOf.eq_2 (And.intro @bytesOf.eq_3 (And.intro @mmA.eq_1 (And.intro @mmA.eq_2 (And.intro @mmA.eq_3 (And.intro @srcA.eq_1 (And.intro @srcA.eq_2 (And.intro @srcA.eq_3 (And.intro @srcA.eq_4 (And.intro @appA.eq_1 (And.intro @appA.eq_2 (And.intro @appA.eq_3 (And.intro @sliceA.eq_1 (And.intro @sliceA.eq_2 (And.intro @sliceA.eq_3 (And.intro @sliceA.eq_4 (And.intro @lohi.eq_1 (And.intro @lohi.eq_2 (And.intro @lohi.eq_3 (And.intro @lohi.eq_4 (And.intro @lohi.eq_5 (And.intro @mkslA.eq_1 (And.intro @mkslA.eq_2 (And.intro @mkslA.eq_3 (And.intro @aidxA.eq_1 (And.intro @aidxA.eq_2 (And.intro @aidxA.eq_3 (And.intro @aidxA.eq_4 (And.intro @capA.eq_1 (And.intro @capA.eq_2 (And.intro @appzA.eq_1 (And.intro @appzA.eq_2 (And.intro @appzA.eq_3 (And.intro @appzA.eq_4 (And.intro @appzA.eq_5 (And.intro @copyA.eq_1 (And.intro @copyA.eq_2 (And.intro @slice0A.eq_1 (And.intro @slice0A.eq_2 (And.intro @slice0A.eq_3 (And.intro @slice0A.eq_4 (And.intro @sidxA.eq_1 (And.intro @sidxA.eq_2 (And.intro @sidxA.eq_3 (And.intro @envA.eq_1 (And.intro @rowsM.eq_1 (And.intro @rowsM.eq_2 (And.intro @outW.eq_1 (And.intro @outW.eq_2 (And.intro @fB.eq_1 (And.intro @fI.eq_1 (And.intro @fL.eq_1 (And.intro @fWrs.eq_1 (And.intro @aDk.eq_1 (And.intro @aRec.eq_1 (And.intro @aPt.eq_1 (And.intro @mlookA.eq_1 (And.intro @mlookA.eq_2 (And.intro @mlookA.eq_3 (And.intro @mupdA.eq_1 (And.intro @mupdA.eq_2 (And.intro @mupdA.eq_3 (And.intro @mlenA.eq_1 (And.intro @mlenA.eq_2 (And.intro @mfind.eq_1 (And.intro @mfind.eq_2 (And.intro @mfind.eq_3 (And.intro @mput.eq_1 (And.intro @mput.eq_2 (And.intro @mput.eq_3 (And.intro @oneA.eq_1 (And.intro @oneA.eq_2 (And.intro @oneA.eq_3 (And.intro @oneA.eq_4 (And.intro @oneA.eq_5 (And.intro @oneA.eq_6 (And.intro @oneA.eq_7 (And.intro @ssliceA.eq_1 (And.intro @ssliceA.eq_2 (And.intro @s2bA.eq_1 (And.intro @s2bA.eq_2 (And.intro @mlook0A.eq_1 (And.intro @mlook0A.eq_2 (And.intro @mlook0A.eq_3 (And.intro @keyL.eq_1 (And.intro @keyL.eq_2 (And.intro @keyL.eq_3 (And.intro @keyL.eq_4 @keyL.eq_5))))))))))))))))))))))))))))))))))))))))))))))))))))))))))))))))))))))))))))))))))))))))))))))))))))))))))))))))))))))))))))))))))))))))))))))))))))))))))))))))))))))))))))))))))))))))))))))))))))))))))))))))))) := (And.intro @SS (And.intro @Option.map_some.{0,0} (And.intro @Option.map_none.{0,0} (And.intro @List.drop_zero.{0} (And.intro @List.take_succ_cons.{0} (And.intro @List.take_zero.{0} (And.intro @List.take_nil.{0} (And.intro @Nat.mul_one (And.intro @Nat.one_mul (And.intro @List.cons_append.{0} (And.intro @List.nil_append.{0} (And.intro @boxA.eq_1 (And.intro @cellsOf.eq_1 (And.intro @cellsOf.eq_2 (And.intro @cellsOf.eq_3 (And.intro @cellsOf.eq_4 (And.intro @cellsOf.eq_5 (And.intro @cellsOf.eq_6 (And.intro @foffA.eq_1 (And.intro @foffA.eq_2 (And.intro @foffA.eq_3 (And.intro @loadA.eq_1 (And.intro @loadA.eq_2 (And.intro @loadA.eq_3 (And.intro @loadA.eq_4 (And.intro @ldA.eq_1 (And.intro @idxA.eq_1 (And.intro @idxA.eq_2 (And.intro @idxA.eq_3 (And.intro @idxA.eq_4 (And.intro @idxA.eq_5 (And.intro @fldA.eq_1 (And.intro @fldA.eq_2 (And.intro @binA.eq_1 (And.intro @binA.eq_2 (And.intro @binA.eq_3 (And.intro @binA.eq_4 (And.intro @binA.eq_5 (And.intro @binVal.eq_1 (And.intro @binVal.eq_2 (And.intro @binVal.eq_3 (And.intro @isSh.eq_1 (And.intro @isSh.eq_2 (And.intro @isSh.eq_3 (And.intro @intVal.eq_1 (And.intro @intVal.eq_2 (And.intro @intVal.eq_3 (And.intro @intVal.eq_4 (And.intro @intVal.eq_5 (And.intro @intVal.eq_6 (And.intro @intVal.eq_7 (And.intro @intVal.eq_8 (And.intro @intVal.eq_9 (And.intro @intVal.eq_10 (And.intro @intVal.eq_11 (And.intro @intVal.eq_12 (And.intro @intVal.eq_13 (And.intro @intVal.eq_14 (And.intro @intVal.eq_15 (And.intro @lenA.eq_1 (And.intro @lenA.eq_2 (And.intro @lenA.eq_3 (And.intro @lenA.eq_4 (And.intro @lenA.eq_5 (And.intro @slenA.eq_1 (And.intro @slenA.eq_2 (And.intro @pickA.eq_1 (And.intro @pickA.eq_2 (And.intro @storeA.eq_1 (And.intro @storeA.eq_2 (And.intro @storeA.eq_3 (And.intro @storeA.eq_4 (And.intro @setN.eq_1 (And.intro @setN.eq_2 (And.intro @getN.eq_1 (And.intro @getN.eq_2 (And.intro @fillA.eq_1 (And.intro @fillA.eq_2 (And.intro @extA.eq_1 (And.intro @extA.eq_2 (And.intro @beqA.eq_1 (And.intro @beqA.eq_2 (And.intro @beqA.eq_3 (And.intro @eqsA.eq_1 (And.intro @eqsA.eq_2 (And.intro @eqsA.eq_3 (And.intro @eqL.eq_1 (And.intro @eqL.eq_2 (And.intro @eqL.eq_3 (And.intro @eqL.eq_4 (And.intro @eqL.eq_5 (And.intro @isnilA.eq_1 (And.intro @isnilA.eq_2 (And.intro @isnilA.eq_3 (And.intro @isnilA.eq_4 (And.intro @isnilA.eq_5 (And.intro @isnilA.eq_6 (And.intro @isnilA.eq_7 (And.intro @isnilA.eq_8 (And.intro @isnilA.eq_9 (And.intro @isnilA.eq_10 (And.intro @unA.eq_1 (And.intro @unA.eq_2 (And.intro @unA.eq_3 (And.intro @unVal.eq_1 (And.intro @unVal.eq_2 (And.intro @unVal.eq_3 (And.intro @unVal.eq_4 (And.intro @unVal.eq_5 (And.intro @unVal.eq_6 (And.intro @convA.eq_1 (And.intro @convA.eq_2 (And.intro @nilA.eq_1 (And.intro @nilA.eq_2 (And.intro @nilA.eq_3 (And.intro @sconvA.eq_1 (And.intro @sconvA.eq_2 (And.intro @b2sA.eq_1 (And.intro @b2sA.eq_2 (And.intro @b2sA.eq_3 (And.intro @b2sA.eq_4 (And.intro @b2sOf.eq_1 (And.intro @bytesOf.eq_1 (And.intro @bytesOf.eq_2 (And.intro @bytesOf.eq_3 (And.intro @mmA.eq_1 (And.intro @mmA.eq_2 (And.intro @mmA.eq_3 (And.intro @srcA.eq_1 (And.intro @srcA.eq_2 (And.intro @srcA.eq_3 (And.intro @srcA.eq_4 (And.intro @appA.eq_1 (And.intro @appA.eq_2 (And.intro @appA.eq_3 (And.intro @sliceA.eq_1 (And.intro @sliceA.eq_2 (And.intro @sliceA.eq_3 (And.intro @sliceA.eq_4 (And.intro @lohi.eq_1 (And.intro @lohi.eq_2 (And.intro @lohi.eq_3 (And.intro @lohi.eq_4 (And.intro @lohi.eq_5 (And.intro @mkslA.eq_1 (And.intro @mkslA.eq_2 (And.intro @mkslA.eq_3 (And.intro @aidxA.eq_1 (And.intro @aidxA.eq_2 (And.intro @aidxA.eq_3 (And.intro @aidxA.eq_4 (And.intro @capA.eq_1 (And.intro @capA.eq_2 (And.intro @appzA.eq_1 (And.intro @appzA.eq_2 (And.intro @appzA.eq_3 (And.intro @appzA.eq_4 (And.intro @appzA.eq_5 (And.intro @copyA.eq_1 (And.intro @copyA.eq_2 (And.intro @slice0A.eq_1 (And.intro @slice0A.eq_2 (And.intro @slice0A.eq_3 (And.intro @slice0A.eq_4 (And.intro @sidxA.eq_1 (And.intro @sidxA.eq_2 (And.intro @sidxA.eq_3 (And.intro @envA.eq_1 (And.intro @rowsM.eq_1 (And.intro @rowsM.eq_2 (And.intro @outW.eq_1 (And.intro @outW.eq_2 (And.intro @fB.eq_1 (And.intro @fI.eq_1 (And.intro @fL.eq_1 (And.intro @fWrs.eq_1 (And.intro @aDk.eq_1 (And.intro @aRec.eq_1 (And.intro @aPt.eq_1 (And.intro @mlookA.eq_1 (And.intro @mlookA.eq_2 (And.intro @mlookA.eq_3 (And.intro @mupdA.eq_1 (And.intro @mupdA.eq_2 (And.intro @mupdA.eq_3 (And.intro @mlenA.eq_1 (And.intro @mlenA.eq_2 (And.intro @mfind.eq_1 (And.intro @mfind.eq_2 (And.intro @mfind.eq_3 (And.intro @mput.eq_1 (And.intro @mput.eq_2 (And.intro @mput.eq_3 (And.intro @oneA.eq_1 (And.intro @oneA.eq_2 (And.intro @oneA.eq_3 (And.intro @oneA.eq_4 (And.intro @oneA.eq_5 (And.intro @oneA.eq_6 (And.intro @oneA.eq_7 (And.intro @ssliceA.eq_1 (And.intro @ssliceA.eq_2 (And.intro @s2bA.eq_1 (And.intro @s2bA.eq_2 (And.intro @mlook0A.eq_1 (And.intro @mlook0A.eq_2 (And.intro @mlook0A.eq_3 (And.intro @keyL.eq_1 (And.intro @keyL.eq_2 (And.intro @keyL.eq_3 (And.intro @keyL.eq_4 @keyL.eq_5)))))))))))))))))))))))))))))))))))))))))))))))))))))))))))))))))))))))))))))))))))))))))))))))))))))))))))))))))))))))))))))))))))))))))))))))))))))))))))))))))))))))))))))))))))))))))))))))))))))))))))))))))))
theorem WT : type_of% (And.intro @tk_B (And.intro @tk_I (And.intro @tk_L (And.intro @tk_Wrs (And.intro @AlL_append (And.intro @renL_append (And.intro @s_envOf (And.intro @s_envOf0 (And.intro @s_heapOf (And.intro @s_heapOf0 (And.intro @s_put (And.intro @s_put0 (And.intro @s_put1 (And.intro @s_app0 (And.intro @s_app1 (And.intro @al_B (And.intro @al_I (And.intro @al_L (And.intro @al_Wrs (And.intro @ren_B (And.intro @ren_I (And.intro @ren_L (And.intro @ren_Wrs (And.intro @okL.eq_1 (And.intro @okL.eq_2 (And.intro @okH.eq_1 (And.intro @okH.eq_2 (And.intro @rowIs.eq_1 (And.intro @rowIs.eq_2 (And.intro @okV.eq_1 (And.intro @okV.eq_2 (And.intro @okHV.eq_1 (And.intro @okHV.eq_2 (And.intro @rowVt.eq_1 (And.intro @rowVt.eq_2 (And.intro @vtL.eq_1 (And.intro @vtL.eq_2 (And.intro @vtL.eq_3 (And.intro @okF.eq_1 (And.intro @okF.eq_2 (And.intro @okHF.eq_1 (And.intro @okHF.eq_2 (And.intro @rowFz.eq_1 (And.intro @rowFz.eq_2 (And.intro @fzL.eq_1 (And.intro @fzL.eq_2 (And.intro @fzL.eq_3 (And.intro @fzV.eq_1 (And.intro @fzV.eq_2 (And.intro @fzOne.eq_1 (And.intro @fzOne.eq_2 (And.intro @fzOne.eq_3 (And.intro @nilLike.eq_1 (And.intro @nilLike.eq_2 (And.intro @oldLike.eq_1 (And.intro @oldLike.eq_2 (And.intro @rn.eq_1 (And.intro @Al.eq_1 (And.intro @Al.eq_2 (And.intro @Al.eq_3 (And.intro @Al.eq_4 (And.intro @Al.eq_5 (And.intro @Al.eq_6 (And.intro @Al.eq_7 (And.intro @Al.eq_8 (And.intro @Al.eq_9 (And.intro @Al.eq_10 (And.intro @Al.eq_11 (And.intro @Al.eq_12 (And.intro @Al.eq_13 (And.intro @Al.eq_14 (And.intro @Al.eq_15 (And.intro @AlL.eq_1 (And.intro @AlL.eq_2 (And.intro @ren.eq_1 (And.intro @ren.eq_2 (And.intro @ren.eq_3 (And.intro @ren.eq_4 (And.intro @ren.eq_5 (And.intro @ren.eq_6 (And.intro @ren.eq_7 (And.intro @ren.eq_8 (And.intro @ren.eq_9 (And.intro @ren.eq_10 (And.intro @ren.eq_11 (And.intro @ren.eq_12 (And.intro @ren.eq_13 (And.intro @ren.eq_14 (And.intro @ren.eq_15 (And.intro @renL.eq_1 (And.intro @renL.eq_2 (And.intro @fB.eq_1 (And.intro @fI.eq_1 (And.intro @fL.eq_1 @fWrs.eq_1)))))))))))))))))))))))))))))))))))))))))))))))))))))))))))))))))))))))))))))))))))))))))))))) := (And.intro @tk_B (And.intro @tk_I (And.intro @tk_L (And.intro @tk_Wrs (And.intro @AlL_append (And.intro @renL_append (And.intro @s_envOf (And.intro @s_envOf0 (And.intro @s_heapOf (And.intro @s_heapOf0 (And.intro @s_put (And.intro @s_put0 (And.intro @s_put1 (And.intro @s_app0 (And.intro @s_app1 (And.intro @al_B (And.intro @al_I (And.intro @al_L (And.intro @al_Wrs (And.intro @ren_B (And.intro @ren_I (And.intro @ren_L (And.intro @ren_Wrs (And.intro @okL.eq_1 (And.intro @okL.eq_2 (And.intro @okH.eq_1 (And.intro @okH.eq_2 (And.intro @rowIs.eq_1 (And.intro @rowIs.eq_2 (And.intro @okV.eq_1 (And.intro @okV.eq_2 (And.intro @okHV.eq_1 (And.intro @okHV.eq_2 (And.intro @rowVt.eq_1 (And.intro @rowVt.eq_2 (And.intro @vtL.eq_1 (And.intro @vtL.eq_2 (And.intro @vtL.eq_3 (And.intro @okF.eq_1 (And.intro @okF.eq_2 (And.intro @okHF.eq_1 (And.intro @okHF.eq_2 (And.intro @rowFz.eq_1 (And.intro @rowFz.eq_2 (And.intro @fzL.eq_1 (And.intro @fzL.eq_2 (And.intro @fzL.eq_3 (And.intro @fzV.eq_1 (And.intro @fzV.eq_2 (And.intro @fzOne.eq_1 (And.intro @fzOne.eq_2 (And.intro @fzOne.eq_3 (And.intro @nilLike.eq_1 (And.intro @nilLike.eq_2 (And.intro @oldLike.eq_1 (And.intro @oldLike.eq_2 (And.intro @rn.eq_1 (And.intro @Al.eq_1 (And.intro @Al.eq_2 (And.intro @Al.eq_3 (And.intro @Al.eq_4 (And.intro @Al.eq_5 (And.intro @Al.eq_6 (And.intro @Al.eq_7 (And.intro @Al.eq_8 (And.intro @Al.eq_9 (And.intro @Al.eq_10 (And.intro @Al.eq_11 (And.intro @Al.eq_12 (And.intro @Al.eq_13 (And.intro @Al.eq_14 (And.intro @Al.eq_15 (And.intro @AlL.eq_1 (And.intro @AlL.eq_2 (And.intro @ren.eq_1 (And.intro @ren.eq_2 (And.intro @ren.eq_3 (And.intro @ren.eq_4 (And.intro @ren.eq_5 (And.intro @ren.eq_6 (And.intro @ren.eq_7 (And.intro @ren.eq_8 (And.intro @ren.eq_9 (And.intro @ren.eq_10 (And.intro @ren.eq_11 (And.intro @ren.eq_12 (And.intro @ren.eq_13 (And.intro @ren.eq_14 (And.intro @ren.eq_15 (And.intro @renL.eq_1 (And.intro @renL.eq_2 (And.intro @fB.eq_1 (And.intro @fI.eq_1 (And.intro @fL.eq_1 @fWrs.eq_1))))))))))))))))))))))))))))))))))))))))))))))))))))))))))))))))))))))))))))))))))))))))))))))
theorem ET : type_of% (And.intro @s_envOf (And.intro @s_envOf0 (And.intro @s_heapOf (And.intro @s_heapOf0 (And.intro @s_put1 (And.intro @s_app0 (And.intro @s_app1 (And.intro @resL.eq_1 (And.intro @resL.eq_2 (And.intro @resOne.eq_1 (And.intro @resOne.eq_2 (And.intro @tupOf.eq_1 (And.intro @tupOf.eq_2 (And.intro @getN.eq_1 @getN.eq_2)))))))))))))) := (And.intro @s_envOf (And.intro @s_envOf0 (And.intro @s_heapOf (And.intro @s_heapOf0 (And.intro @s_put1 (And.intro @s_app0 (And.intro @s_app1 (And.intro @resL.eq_1 (And.intro @resL.eq_2 (And.intro @resOne.eq_1 (And.intro @resOne.eq_2 (And.intro @tupOf.eq_1 (And.intro @tupOf.eq_2 (And.intro @getN.eq_1 @getN.eq_2))))))))))))))
end Go.Proofs.YtonglhkiobibgaaGreatDoor
namespace Go.Proofs.YtonglhkiobibgaaGreatDoor
open Go.RowKit
def reachB : Nat := 140737488351232
theorem VRl_app {c : Cx} : ∀ {a b : List AV} {us : List Value}, VRl c (a ++ b) us ↔ ∃ u1 u2, us = u1 ++ u2 ∧ VRl c a u1 ∧ VRl c b u2
  | [], b, us => ⟨fun h => ⟨[], us, rfl, rfl, h⟩, fun ⟨u1, u2, e, h1, h2⟩ => by rw [VRl] at h1; subst h1; rw [e]; exact h2⟩
  | x :: a, b, us => by
    rw [List.cons_append, VRl]
    constructor
    · rintro ⟨u, us', rfl, h1, h2, h3⟩
      obtain ⟨u1, u2, rfl, h4, h5⟩ := VRl_app.1 h3
      exact ⟨u :: u1, u2, rfl, ⟨u, u1, rfl, h1, h2, h4⟩, h5⟩
    · rintro ⟨u1, u2, rfl, h1, h2⟩
      rw [VRl] at h1
      obtain ⟨u, us', rfl, h3, h4, h5⟩ := h1
      exact ⟨u, us' ++ u2, rfl, h3, h4, VRl_app.2 ⟨us', u2, rfl, h5, h2⟩⟩
/-- the moment of a call from outside -/
def cx0 (W : World) : Cx := ⟨W, W.heap.size, fun _ => none, fun _ => none, fun _ => False, fun _ => .no⟩
theorem hr0 (W : World) (hg : ∀ b v, GLOB b = some v → W.cell? ⟨b, 0, none⟩ = some v) : HR (cx0 W) := ⟨fun id y e cells h => by simp [cx0] at h, fun id id' b h => absurd rfl h, Nat.le_refl _, fun b h => h.elim, fun b v h => ⟨hg b v h, by rintro ⟨id, o, h, _⟩; simp [cx0] at h, fun h => h.elim⟩⟩
theorem ok0 (W : World) (b : Nat) : (cx0 W).ok false b := ⟨fun h => (by cases h), by rintro ⟨id, o, h, _⟩; simp [cx0] at h, fun h => h⟩
/-- a call from outside -/
theorem ASound.row {P : Program} {f : FuncId} {args : List AV} {b : Value} (h : ∀ nb, ASound P f args nb (.ret (.v b) [])) {W : World} {us : List Value} (hg : ∀ b v, GLOB b = some v → W.cell? ⟨b, 0, none⟩ = some v) (hv : VRt (cx0 W) args us) : Calls P f us.toArray W fun e W' => e = .returned b ∧ Below W.heap.size W W' := by
  refine ((h 0).2 (cx0 W) us _ _ _ rfl (hr0 W hg) (fun id _ => .inl rfl) hv).mono ?_
  rintro e w' ⟨v, d, rfl, rfl, h1, h2⟩
  rw [VR] at h1
  subst h1
  refine ⟨rfl, ⟨h2.grow.osE, h2.grow.tape, h2.grow.out, h2.grow.size, fun k hk => h2.grow.stay k hk ?_ (fun h => h.elim)⟩⟩
  rintro ⟨id, o, h3, _⟩
  simp [cx0] at h3
/-- What the readings of a type say: a datum. -/
structure Rd (P : Program) (t : TypeId) {α : Type} (e : Bool → α → List AV) (ok : α → Prop) : Prop where
  len : ∀ x, (e false x).length = P.cellsOf t
  rd : ∀ {H : Type} {enc : TypeId × Value → H} {W : World} {fuel : Nat} {cs : List Value} {x : DataW H × List MemPlace}, DataW.trod enc P W 0 (fun _ => true) true fuel t cs = some x → (x.1.weights P t).all (· ≤ reachBytes) = true → ∃ a, ok a ∧ VRl (cx0 W) (e false a) cs
section
variable {P : Program}
theorem rd_int {t : TypeId} {k : IntKind} (ht : P.underlying t = some (.int k)) (hc : P.cellsOf t = 1) : Rd P t (fun _ x => [.v (.int k x)]) (fun x => (Lit.int k x).wf = true) where
  len _ := hc.symm
  rd := by
    intro H enc W fuel cs x h _
    obtain ⟨n, rfl, _, hw⟩ := DataW.trod_int ht h
    exact ⟨n, hw, _, [], rfl, rfl, rfl, rfl⟩
theorem Rd.map {t : TypeId} {α β : Type} {e : Bool → α → List AV} {ok : α → Prop} (h : Rd P t e ok) {e' : Bool → β → List AV} {ok' : β → Prop} (f : α → β) (g : β → α) (hg : ∀ fr b, e' fr b = e fr (g b)) (he : ∀ fr a, e' fr (f a) = e fr a) (hok : ∀ a, ok a → ok' (f a)) : Rd P t e' ok' where
  len x := by rw [hg]; exact h.len _
  rd := by
    intro H enc W fuel cs x h1 h2
    obtain ⟨a, h3, h4⟩ := h.rd h1 h2
    exact ⟨f a, hok a h3, by rw [he]; exact h4⟩
theorem list_choose {α : Type} {Q : Nat → α → Prop} : ∀ n, (∀ i, i < n → ∃ a, Q i a) → ∃ l : List α, l.length = n ∧ ∀ i a, l[i]? = some a → Q i a
  | 0, _ => ⟨[], rfl, fun i a h => by simp at h⟩
  | n + 1, h => by
    obtain ⟨l, h1, h2⟩ := list_choose n fun i hi => h i (by omega)
    obtain ⟨a, ha⟩ := h n (by omega)
    refine ⟨l ++ [a], by simp [h1], fun i b hb => ?_⟩
    by_cases hi : i < n
    · rw [List.getElem?_append_left (by omega)] at hb; exact h2 i b hb
    · have hl := (List.getElem?_eq_some_iff.1 hb).1
      simp [h1] at hl
      have : i = n := by omega
      subst this
      rw [List.getElem?_append_right (by omega)] at hb
      simp [h1] at hb
      rw [← hb]; exact ha
theorem weightsAll_mem {H : Type} {e : TypeId} : ∀ {l : List (DataW H)} {p : Nat → Bool}, (DataW.weightsAll P e l).all p = true → ∀ d ∈ l, (d.weights P e).all p = true
  | [], _, _, d, hd => by simp at hd
  | x :: l, p, h, d, hd => by
    rw [DataW.weightsAll, List.all_append, Bool.and_eq_true] at h
    rcases List.mem_cons.1 hd with e1 | e1
    · rw [e1]; exact h.1
    · exact weightsAll_mem h.2 d e1
theorem rd_slice {t te : TypeId} {α : Type} {e : Bool → α → List AV} {ok : α → Prop} {B : Nat} (ht : P.underlying t = some (.slice te)) (hc : P.cellsOf t = 1) (hb : P.bytesOf te = B) (hp : 0 < P.cellsOf te) (h : Rd P te e ok) :
    Rd P t (fun fr (xs : List α) => [.fs fr (xs.flatMap (e fr)) xs.length]) (fun xs => xs.length * B ≤ reachB ∧ ∀ x ∈ xs, ok x) where
  len _ := hc.symm
  rd := by
    intro H enc W fuel cs x h1 h2
    rcases DataW.trod_slice ht h1 with ⟨rfl, rfl⟩ | ⟨a, len, cap, elems, rest, n, _, rfl, rfl, _, hl, hm, hlen, hel, _, _⟩
    · refine ⟨[], ⟨by simp, by simp⟩, _, [], rfl, rfl, ?_, rfl⟩
      rw [VR]
      exact ⟨none, 0, rfl, Nat.le_refl _, fun h => absurd rfl h⟩
    · simp only [DataW.weights, ht, List.all_cons, List.all_append, Bool.and_eq_true, decide_eq_true_eq] at h2
      obtain ⟨hw, hwe, _⟩ := h2
      have each : ∀ i, i < len → ∃ y, ok y ∧ ∃ us, VRl (cx0 W) (e false y) us ∧ us.length = P.cellsOf te ∧ ∀ j, j < P.cellsOf te → W.cell? ((a.add (i * P.cellsOf te)).add j) = us[j]? := by
        intro i hi
        have h3 := hel i hi
        rw [List.getElem?_eq_getElem (by omega), Option.bind_eq_some_iff] at h3
        obtain ⟨us, h4, h5⟩ := h3
        obtain ⟨_, h6, h7⟩ := World.cells?_some h4
        obtain ⟨y, h8, h9⟩ := h.rd h5 (weightsAll_mem hwe _ (List.mem_map.2 ⟨elems[i], List.getElem_mem _, rfl⟩))
        exact ⟨y, h8, us, h9, h6, h7⟩
      obtain ⟨xs, hxl, hxs⟩ := list_choose len each
      refine ⟨xs, ⟨?_, fun y hy => ?_⟩, _, [], rfl, rfl, ?_, rfl⟩
      · rw [hb] at hw
        simp at hw
        have : xs.length * B ≤ (elems.length + rest.length) * B := Nat.mul_le_mul_right _ (by omega)
        unfold reachB
        unfold reachBytes at hw
        omega
      · obtain ⟨i, hi⟩ := List.getElem?_of_mem hy
        exact (hxs i y hi).1
      · rw [VR]
        refine ⟨some a, cap, by rw [hxl], by omega, fun hne => ?_⟩
        have hn0 : 0 < xs.length := by omega
        have spot : a.spot = none := by
          obtain ⟨_, us, _, h6, h7⟩ := hxs 0 _ (List.getElem?_eq_getElem hn0)
          have h8 := h7 0 hp
          rw [List.getElem?_eq_getElem (by omega)] at h8
          simp only [Nat.zero_mul, Addr.add, if_true] at h8
          unfold World.cell? at h8
          split at h8
          · split at h8
            · cases h8
            · rename_i hs; cases hsp : a.spot with
              | none => rfl
              | some _ => rw [hsp] at hs; simp at hs
          · cases h8
        obtain ⟨b, off, sp⟩ := a
        simp only at spot
        subst spot
        have addr : ∀ k j, ((Addr.mk b off none).add k).add j = ⟨b, off + (k + j), none⟩ := by
          intro k j
          unfold Addr.add
          by_cases hk : k = 0 <;> by_cases hj : j = 0 <;> simp [hk, hj]
          omega
        have key : ∀ (j : Nat) q, (xs.flatMap (e false))[j]? = some q → ∃ u, W.cell? ⟨b, off + j, none⟩ = some u ∧ u.oneCell' = true ∧ VR (cx0 W) q u := by
          intro j q hj
          have hlt : j < xs.length * P.cellsOf te := by rw [← flat_len h.len xs]; exact (List.getElem?_eq_some_iff.1 hj).1
          have hi : j / P.cellsOf te < xs.length := Nat.div_lt_of_lt_mul (by rw [Nat.mul_comm]; exact hlt)
          have hr : j % P.cellsOf te < P.cellsOf te := Nat.mod_lt _ hp
          have ej : j / P.cellsOf te * P.cellsOf te + j % P.cellsOf te = j := by rw [Nat.mul_comm]; exact Nat.div_add_mod _ _
          obtain ⟨_, us, h5, h6, h7⟩ := hxs _ _ (List.getElem?_eq_getElem hi)
          rw [← ej, flat_get h.len (List.getElem?_eq_getElem hi) _ hr] at hj
          obtain ⟨u, k1, k2, k3⟩ := (VRl_iff.1 h5).2 _ q hj
          have h8 := h7 _ hr
          rw [addr, ej, k1] at h8
          exact ⟨u, h8, k2, k3⟩
        have hb0 : b < W.heap.size := by
          have hfl : 0 < (xs.flatMap (e false)).length := by rw [flat_len h.len xs]; exact Nat.mul_pos hn0 hp
          obtain ⟨u, h5, _⟩ := key 0 _ (List.getElem?_eq_getElem hfl)
          exact cell_lt h5
        exact ⟨b, off, rfl, hb0, ok0 W b, VRm_iff.2 key⟩
/-- the same of fields, from a place on -/
structure RdF (P : Program) (fs : List Field) (o n : Nat) {α : Type} (e : Bool → α → List AV) (ok : α → Prop) : Prop where
  len : ∀ x, (e false x).length = n
  rd : ∀ {H : Type} {enc : TypeId × Value → H} {W : World} {fuel : Nat} {cs : List Value} {xs : List (DataW H × List MemPlace)},
    (∀ (i : Nat) (f : Field), fs[i]? = some f → DataW.trod enc P W 0 (fun _ => true) true fuel f.type ((cs.drop f.offset).take (P.cellsOf f.type)) = xs[i]?) → xs.length = fs.length →
    (DataW.weightsEach P (fs.map (·.type)) (xs.map (·.1))).all (· ≤ reachBytes) = true → ∃ a, ok a ∧ VRl (cx0 W) (e false a) ((cs.drop o).take n)
theorem RdF.nil {o : Nat} : RdF P [] o 0 (fun _ (_ : Unit) => []) (fun _ => True) where
  len _ := rfl
  rd := by
    intro H enc W fuel cs xs _ _ _
    exact ⟨(), trivial, by simp [VRl]⟩
theorem RdF.cons {f : Field} {fs : List Field} {o c n : Nat} {α β : Type} {e1 : Bool → α → List AV} {ok1 : α → Prop} {e2 : Bool → β → List AV} {ok2 : β → Prop} (ho : f.offset = o) (hc : P.cellsOf f.type = c) (h1 : Rd P f.type e1 ok1) (h2 : RdF P fs (o + c) n e2 ok2) :
    RdF P (f :: fs) o (c + n) (fun fr (x : α × β) => e1 fr x.1 ++ e2 fr x.2) (fun x => ok1 x.1 ∧ ok2 x.2) where
  len x := by rw [List.length_append, h1.len, h2.len, hc]
  rd := by
    intro H enc W fuel cs xs h3 h4 h5
    cases xs with
    | nil => simp at h4
    | cons x xs =>
      rw [List.map_cons, List.map_cons, DataW.weightsEach, List.all_append, Bool.and_eq_true] at h5
      have h6 := h3 0 f rfl
      rw [List.getElem?_cons_zero, ho, hc] at h6
      obtain ⟨a, k1, k2⟩ := h1.rd h6 h5.1
      obtain ⟨b, k3, k4⟩ := h2.rd (xs := xs) (fun i f' hf => by have := h3 (i + 1) f' (by simpa using hf); simpa using this) (by simpa using h4) h5.2
      refine ⟨(a, b), ⟨k1, k3⟩, ?_⟩
      rw [List.take_add, List.drop_drop]
      exact VRl_app.2 ⟨_, _, rfl, k2, k4⟩
end
end Go.Proofs.YtonglhkiobibgaaGreatDoor
namespace Go.Proofs.YtonglhkiobibgaaGreatDoor
open Go.RowKit
/-- one bit of a sum -/
def cbit (c : BitVec 32) : BitVec 32 := if c &&& 1#32 = 1#32 then (c >>> 1) ^^^ 0xedb88320#32 else c >>> 1
theorem and1_iff (c : BitVec 32) : (c &&& 1#32 = 1#32) ↔ c.getLsbD 0 = true := by
  constructor
  · intro h
    have := congrArg (fun x => x.getLsbD 0) h
    simpa using this
  · intro h
    apply BitVec.eq_of_getLsbD_eq
    intro i hi
    rcases i with _ | i
    · simp [h]
    · simp
theorem cbit_xor (a b : BitVec 32) : cbit (a ^^^ b) = cbit a ^^^ cbit b := by
  unfold cbit
  simp only [and1_iff, BitVec.getLsbD_xor, BitVec.ushiftRight_xor_distrib]
  cases a.getLsbD 0 <;> cases b.getLsbD 0 <;> simp
  · rw [BitVec.xor_assoc]
  · rw [BitVec.xor_assoc, BitVec.xor_assoc, BitVec.xor_comm (b >>> 1)]
  · rw [BitVec.xor_assoc, BitVec.xor_comm (b >>> 1), ← BitVec.xor_assoc 3988292384#32, BitVec.xor_self, BitVec.zero_xor]
theorem cbit_even {c : BitVec 32} (h : c.getLsbD 0 = false) : cbit c = c >>> 1 := by
  unfold cbit; rw [if_neg (by rw [and1_iff, h]; decide)]
def cbit4 (c : BitVec 32) : BitVec 32 := cbit (cbit (cbit (cbit c)))
theorem cbit4_nib (c : BitVec 32) : cbit4 c = (c >>> 4) ^^^ cbit4 (c &&& 15#32) := by
  have h : c = (c &&& ~~~15#32) ^^^ (c &&& 15#32) := by
    apply BitVec.eq_of_getLsbD_eq
    intro i hi
    simp only [BitVec.getLsbD_xor, BitVec.getLsbD_and, BitVec.getLsbD_not, hi, decide_true, Bool.true_and]
    cases c.getLsbD i <;> cases (15#32).getLsbD i <;> rfl
  have lin : ∀ a b, cbit4 (a ^^^ b) = cbit4 a ^^^ cbit4 b := by
    intro a b; unfold cbit4; simp only [cbit_xor]
  have hi : cbit4 (c &&& ~~~15#32) = c >>> 4 := by
    unfold cbit4
    have g : ∀ k, (c &&& ~~~15#32).getLsbD k = (c.getLsbD k && decide (4 ≤ k)) := by
      intro k
      by_cases hk : k < 32
      · rw [BitVec.getLsbD_and, BitVec.getLsbD_not]
        simp only [hk, decide_true, Bool.true_and]
        congr 1
        have : ∀ k, k < 32 → (!((15#32).getLsbD k)) = decide (4 ≤ k) := by decide
        exact this k hk
      · have h1 : c.getLsbD k = false := BitVec.getLsbD_of_ge c k (by omega)
        rw [BitVec.getLsbD_and, h1]; rfl
    rw [cbit_even (c := c &&& ~~~15#32) (by rw [g]; simp)]
    rw [cbit_even (c := (c &&& ~~~15#32) >>> 1) (by rw [BitVec.getLsbD_ushiftRight, g]; simp)]
    rw [cbit_even (c := (c &&& ~~~15#32) >>> 1 >>> 1) (by rw [BitVec.getLsbD_ushiftRight, BitVec.getLsbD_ushiftRight, g]; simp)]
    rw [cbit_even (c := (c &&& ~~~15#32) >>> 1 >>> 1 >>> 1) (by rw [BitVec.getLsbD_ushiftRight, BitVec.getLsbD_ushiftRight, BitVec.getLsbD_ushiftRight, g]; simp)]
    apply BitVec.eq_of_getLsbD_eq
    intro i hi
    simp only [BitVec.getLsbD_ushiftRight, g]
    simp only [show 1 + (1 + (1 + (1 + i))) = 4 + i from by omega]
    simp
  conv => lhs; rw [h]
  rw [lin, hi]
/-- an octet more -/
def cbyte (c : BitVec 32) (x : Int) : BitVec 32 := cbit4 (cbit4 (c ^^^ BitVec.ofInt 32 x))
def cgo (c : BitVec 32) (l : List Int) : BitVec 32 := l.foldl cbyte c
def crc (l : List Int) : BitVec 32 := ~~~ (cgo (~~~ 0#32) l)
def low4 (c : BitVec 32) : List Int := [(c.toNat : Int) % 256, ((c >>> 8).toNat : Int) % 256, ((c >>> 16).toNat : Int) % 256, ((c >>> 24).toNat : Int) % 256]
def sealB (l : List Int) : List Int := l ++ low4 (crc l)
theorem u32_wrap (x : Int) : IntKind.u32.wrap x = ((BitVec.ofInt 32 x).toNat : Int) := by
  rw [BitVec.toNat_ofInt]
  have h : IntKind.u32.wrap x = x % 4294967296 := by simp [IntKind.wrap, IntKind.bits, IntKind.signed]
  rw [h]
  have := Int.emod_nonneg x (show (4294967296 : Int) ≠ 0 by decide)
  show x % 4294967296 = (((x % ((2 ^ 32 : Nat) : Int)).toNat : Nat) : Int)
  rw [show ((2 ^ 32 : Nat) : Int) = 4294967296 from rfl]
  omega
theorem u32_back (c : BitVec 32) : BitVec.ofInt 32 (c.toNat : Int) = c := by simp
theorem and_u32 (a b : Int) : IntKind.u32.wrap ((BitVec.ofInt IntKind.u32.bits a &&& BitVec.ofInt IntKind.u32.bits b).toNat : Int) = ((BitVec.ofInt 32 a &&& BitVec.ofInt 32 b).toNat : Int) := by
  rw [u32_wrap]
  exact congrArg (fun c : BitVec 32 => (c.toNat : Int)) (u32_back (BitVec.ofInt 32 a &&& BitVec.ofInt 32 b))
theorem xor_u32 (a b : Int) : IntKind.u32.wrap ((BitVec.ofInt IntKind.u32.bits a ^^^ BitVec.ofInt IntKind.u32.bits b).toNat : Int) = ((BitVec.ofInt 32 a ^^^ BitVec.ofInt 32 b).toNat : Int) := by
  rw [u32_wrap]
  exact congrArg (fun c : BitVec 32 => (c.toNat : Int)) (u32_back (BitVec.ofInt 32 a ^^^ BitVec.ofInt 32 b))
theorem not_u32 (a : Int) : IntKind.u32.wrap ((BitVec.ofInt IntKind.u32.bits (if IntKind.u32.signed = true then -1 else IntKind.u32.max) ^^^ BitVec.ofInt IntKind.u32.bits a).toNat : Int) = ((~~~ BitVec.ofInt 32 a).toNat : Int) := by
  rw [xor_u32]
  have h : BitVec.ofInt 32 (if IntKind.u32.signed = true then -1 else IntKind.u32.max) = BitVec.allOnes 32 := by decide
  rw [h, BitVec.allOnes_xor]
theorem neg_u32 (a : Int) : IntKind.u32.wrap (0 - a) = ((- BitVec.ofInt 32 a).toNat : Int) := by
  rw [u32_wrap, Int.zero_sub, BitVec.ofInt_neg]
theorem sh_r (c : BitVec 32) (b : Int) (hb : 0 ≤ b) (h32 : b < 32) : shVal .shr .u32 (c.toNat : Int) b = some (.int .u32 ((c >>> b.toNat).toNat : Int)) := by
  have h1 : min b.toNat IntKind.u32.bits = b.toNat := by show min b.toNat 32 = _; omega
  simp only [shVal, if_neg (Int.not_lt.2 hb), h1]
  congr 2
  rw [Int.fdiv_eq_ediv_of_nonneg _ (by exact Int.le_of_lt (Int.pow_pos (by decide))), BitVec.toNat_ushiftRight, Nat.shiftRight_eq_div_pow]
  norm_cast
theorem sh_1 (c : BitVec 32) : shVal .shr .u32 (c.toNat : Int) 1 = some (.int .u32 ((c >>> 1).toNat : Int)) := sh_r c 1 (by decide) (by decide)
theorem sh_4 (c : BitVec 32) : shVal .shr .u32 (c.toNat : Int) 4 = some (.int .u32 ((c >>> 4).toNat : Int)) := sh_r c 4 (by decide) (by decide)
theorem u8_wrap (x : Int) : IntKind.u8.wrap x = x % 256 := by simp [IntKind.wrap, IntKind.bits, IntKind.signed]
/-- a bit, as the program says it -/
theorem cbit_prog (c : BitVec 32) : (c >>> 1) ^^^ (3988292384#32 &&& - (c &&& 1#32)) = cbit c := by
  unfold cbit
  by_cases h : c &&& 1#32 = 1#32
  · rw [if_pos h, h]; congr 1
  · have h0 : c &&& 1#32 = 0#32 := by
      rw [and1_iff] at h
      apply BitVec.eq_of_getLsbD_eq
      intro i hi
      rcases i with _ | i
      · simpa using h
      · simp
    rw [if_neg h, h0]; simp
theorem lit32 (n : Nat) : BitVec.ofInt 32 (n : Int) = BitVec.ofNat 32 n := by simp
def tabV (i : Nat) : AV := .v (.int .u32 ((cbit4 (BitVec.ofNat 32 i)).toNat : Int))
def tabA : List AV := (List.range 16).map tabV
theorem get_tab {i : Nat} (h : i < 16) : tabA[i]? = some (tabV i) := by simp [tabA, h]
theorem len_tab : tabA.length = 16 := by simp [tabA]
theorem setN_all : ∀ (l' l : List AV), l'.length = l.length → setN l 0 l' = l' := by
  have key : ∀ (l' l p : List AV), l'.length = l.length → setN (p ++ l) p.length l' = p ++ l' := by
    intro l'
    induction l' with
    | nil => intro l p h; have : l = [] := List.eq_nil_of_length_eq_zero (by simpa using h.symm); simp [setN, this]
    | cons a l' ih =>
      intro l p h
      cases l with
      | nil => simp at h
      | cons b l =>
        rw [setN, List.set_append_right _ _ (Nat.le_refl _), Nat.sub_self, List.set_cons_zero]
        have := ih l (p ++ [a]) (by simpa using h)
        simpa using this
  intro l' l h
  exact key l' l [] h
theorem al_tab {p : Nat → Prop} : AlL p tabA := AlL_map (e := tabV) (fun _ => trivial) _
theorem ren_tab {ρ : Nat → Nat} : renL ρ tabA = tabA := renL_id (p := fun _ => False) (fun _ h => h.elim) al_tab
theorem crc_snoc (c : BitVec 32) (l : List Int) (x : Int) : cgo c (l ++ [x]) = cbyte (cgo c l) x := by simp [cgo]
end Go.Proofs.YtonglhkiobibgaaGreatDoor
namespace Go.Proofs.YtonglhkiobibgaaGreatDoor
open Go.RowKit
variable {P : Program} {N m : Nat}
theorem Weak.imps {s : ASt} (l : List (Nat × AV)) (h : List (Nat × AObj)) (hl : ∀ t v, (t, v) ∈ l → Imp (s.env t) v)
    (hh : ∀ j o, (j, o) ∈ h → ∃ y e cs cs', s.σ j = some (.row y e cs) ∧ o = .row y e cs' ∧ (cs'.length = cs.length ∨ (e ≠ MAPE ∧ cs'.length ≤ cs.length)) ∧ ∀ (k : Nat) x', cs'[k]? = some x' → ∃ x, cs[k]? = some x ∧ Imp x x') : Weak N m s ⟨envOf l, heapOf h, s.nx⟩ := by
  intro c a hr hms
  generalize hd : (⟨c.w, c.B, c.φ, heapOf h, c.X, c.Y⟩ : Cx) = d
  have dw : d.w = c.w := by rw [← hd]
  have dB : d.B = c.B := by rw [← hd]
  have dX : d.X = c.X := by rw [← hd]
  have dY : d.Y = c.Y := by rw [← hd]
  have dσ : d.σ = heapOf h := by rw [← hd]
  have dφ : d.φ = c.φ := by rw [← hd]
  have live : ∀ j o, d.σ j = some o → ∃ y' e' cs cs', c.σ j = some (.row y' e' cs) ∧ o = .row y' e' cs' ∧ (cs'.length = cs.length ∨ (e' ≠ MAPE ∧ cs'.length ≤ cs.length)) ∧ ∀ (k : Nat) x', cs'[k]? = some x' → ∃ x, cs[k]? = some x ∧ Imp x x' := by
    intro j o hj
    rw [dσ] at hj
    obtain ⟨y', e', cs, cs', f1, f2⟩ := hh j o (heapOf_mem hj)
    exact ⟨y', e', cs, cs', by rw [hr.σ]; exact f1, f2⟩
  have hT : ∀ b, d.T b → c.T b := by
    rintro b ⟨k, o, e1, e2⟩
    obtain ⟨y', e', cs, cs', f1, _⟩ := live k o e1
    rw [dφ] at e2
    exact ⟨k, _, f1, e2⟩
  have g : Grow c d := Still.grow ⟨dY, dX, dB, by rw [dw], by rw [dw], by rw [dw], by rw [dw]; exact Nat.le_refl _, fun b _ _ => by rw [dw], fun b hb => .inl (hT b hb), fun b cs e f hb => ⟨cs, f, by rw [dw]; exact hb, rfl⟩⟩
  have nm : Names c d := fun k x hk => by rw [dφ]; exact hk
  refine ⟨d, dw, g, fun _ _ => by rw [dφ], ⟨hr.size, fun t => ?_, ⟨fun j y' e' cs' hs => ?_, fun i i' b e1 e2 e3 e4 => ?_, by rw [dB, dw]; exact hr.hr.base, fun b hb => by rw [dX] at hb; rw [dw]; exact hr.hr.xlt b hb, hr.hr.gl.grow g⟩, dσ, fun k hk hne => by rw [dφ] at hne; exact hr.fresh k hk hne⟩, hms⟩
  · simp only
    rcases envOf_mem (l := l) (t := t) with h9 | h9
    · rw [h9]; trivial
    · exact (hl _ _ h9 c _ (hr.env t)).mono g nm
  · obtain ⟨y2, e2, cs, cs2, f1, f2, f3, f4⟩ := live j _ hs
    cases f2
    rcases hr.hr.row j y' e' cs f1 with ⟨g1, g2⟩ | ⟨b, ca, g1, g2, g3, g4, g5⟩
    · refine .inl ⟨by rw [dφ]; exact g1, ?_, g2.2⟩
      rw [g2.1] at f3
      exact List.eq_nil_of_length_eq_zero (by simp at f3; rcases f3 with f3 | ⟨_, f3⟩ <;> simp [f3])
    · refine .inr ⟨b, ca, by rw [dφ]; exact g1, by rw [dw]; rcases f3 with f3 | ⟨f3, _⟩; exact g2.to f3; exact Blk.mk f3 (g2.cells2 f3), ⟨by rw [dB]; exact g3.1, by rw [dX]; exact g3.2⟩, by omega, fun k x' hk => ?_⟩
      obtain ⟨x, k1, k2⟩ := f4 k x' hk
      obtain ⟨u, k3, k4, k5⟩ := g5 k x k1
      exact ⟨u, k3, k4, (k2 c _ k5).mono g nm⟩
  · obtain ⟨o1, ho1⟩ := Option.ne_none_iff_exists'.1 e1
    obtain ⟨o2, ho2⟩ := Option.ne_none_iff_exists'.1 e2
    obtain ⟨_, _, _, _, f1, _⟩ := live i o1 ho1
    obtain ⟨_, _, _, _, f2, _⟩ := live i' o2 ho2
    rw [dφ] at e3 e4
    exact hr.hr.inj i i' b (by rw [f1]; simp) (by rw [f2]; simp) e3 e4
/-- a row of which nothing is known but that it is there -/
theorem Weak.forget {s : ASt} (id : Nat) {y : Bool} {e : Nat} {cs : List AV} (l : List (Nat × AV)) (hl : ∀ t v, (t, v) ∈ l → s.env t = v) (hid : s.σ id = some (.row y e cs)) (hneM : e ≠ MAPE := by decide) : Weak N m s ⟨envOf l, heapOf [(id, .row y e [])], s.nx⟩ := by
  refine Weak.imps l _ (fun t v h => by rw [hl t v h]; exact Imp.refl v) (fun j o hj => ?_)
  simp only [List.mem_singleton, Prod.mk.injEq] at hj
  obtain ⟨rfl, rfl⟩ := hj
  exact ⟨y, e, cs, [], hid, rfl, .inr ⟨hneM, Nat.zero_le _⟩, fun k x hx => by simp at hx⟩
end Go.Proofs.YtonglhkiobibgaaGreatDoor
namespace Go.Proofs.YtonglhkiobibgaaGreatDoor
set_option maxRecDepth 100000
def ac_13 : AC :=
(.seq (.reg false [⟨some 6, .mv (.const (.bool false)), none, [], []⟩] [0, 1, 2])
(.seq (.seq (.reg false [⟨some 9, .call 55 [], none, [], []⟩,
    ⟨some 10, .un .not (.tmp 9), none, [9], []⟩] [0, 1, 2, 10])
(.cond (.tmp 10)
(.seq (.reg false [⟨some 6, .mv (.const (.bool false)), none, [], []⟩] [6])
.ret)
.skip))
(.seq (.reg false [⟨some 11, .mv (.tmp 0), none, [0], []⟩,
    ⟨some 12, .mv (.tmp 1), none, [1], []⟩,
    ⟨some 13, .mv (.tmp 2), none, [2], []⟩,
    ⟨some 14, .bslice 93 1 3 [(.slice none 0 0), (.slice none 0 0), (.slice none 0 0)] [(0, 1, (.tmp 11)), (1, 1, (.tmp 12)), (2, 1, (.tmp 13))], none, [11, 12, 13], []⟩,
    ⟨some 15, .call 56 [(.tmp 14)], none, [14], []⟩,
    ⟨some 7, .mv (.tmp 15), none, [15], []⟩] [0, 1, 2, 7])
(.seq (.seq (.reg false [⟨some 16, .mv (.tmp 7), none, [7], []⟩,
    ⟨some 17, .mv (.tmp 0), none, [0], []⟩,
    ⟨some 18, .call 57 [(.tmp 16), (.tmp 17)], none, [16, 17], []⟩,
    ⟨some 19, .un .not (.tmp 18), none, [18], []⟩,
    ⟨some 20, .mv (.tmp 19), none, [19], []⟩,
    ⟨some 21, .mv (.tmp 7), some (20, false), [7, 20], []⟩,
    ⟨some 22, .mv (.tmp 1), some (20, false), [1, 20], []⟩,
    ⟨some 23, .call 57 [(.tmp 21), (.tmp 22)], some (20, false), [21, 22, 20], []⟩,
    ⟨some 24, .un .not (.tmp 23), some (20, false), [23, 20], []⟩,
    ⟨some 25, .pick (.tmp 20) (.const (.bool true)) (.tmp 24), none, [20, 24], []⟩,
    ⟨some 26, .mv (.tmp 25), none, [25], []⟩,
    ⟨some 27, .mv (.tmp 7), some (26, false), [7, 26], []⟩,
    ⟨some 28, .mv (.tmp 2), some (26, false), [2, 26], []⟩,
    ⟨some 29, .call 57 [(.tmp 27), (.tmp 28)], some (26, false), [27, 28, 26], []⟩,
    ⟨some 30, .un .not (.tmp 29), some (26, false), [29, 26], []⟩,
    ⟨some 31, .pick (.tmp 26) (.const (.bool true)) (.tmp 30), none, [26, 30], []⟩] [0, 1, 2, 7, 31])
(.cond (.tmp 31)
(.seq (.reg false [⟨some 6, .mv (.const (.bool false)), none, [], []⟩] [6])
.ret)
.skip))
(.seq (.reg false [⟨some 32, .mv (.tmp 7), none, [7], []⟩,
    ⟨some 33, .len false (.tmp 32), none, [32], []⟩,
    ⟨some 8, .mv (.tmp 33), none, [33], []⟩] [0, 1, 2, 8])
(.seq (.seq (.reg false [⟨some 34, .mv (.tmp 8), none, [8], []⟩,
    ⟨some 35, .mv (.tmp 0), none, [0], []⟩,
    ⟨some 36, .len false (.tmp 35), none, [35], []⟩,
    ⟨some 37, .bin .geq (.tmp 34) (.tmp 36), none, [34, 36], []⟩,
    ⟨some 38, .mv (.tmp 37), none, [37], []⟩,
    ⟨some 39, .mv (.tmp 8), some (38, false), [8, 38], []⟩,
    ⟨some 40, .mv (.tmp 1), some (38, false), [1, 38], []⟩,
    ⟨some 41, .len false (.tmp 40), some (38, false), [40, 38], []⟩,
    ⟨some 42, .bin .geq (.tmp 39) (.tmp 41), some (38, false), [39, 41, 38], []⟩,
    ⟨some 43, .pick (.tmp 38) (.const (.bool true)) (.tmp 42), none, [38, 42], []⟩,
    ⟨some 44, .mv (.tmp 43), none, [43], []⟩,
    ⟨some 45, .mv (.tmp 8), some (44, false), [8, 44], []⟩,
    ⟨some 46, .mv (.tmp 2), some (44, false), [2, 44], []⟩,
    ⟨some 47, .len false (.tmp 46), some (44, false), [46, 44], []⟩,
    ⟨some 48, .bin .geq (.tmp 45) (.tmp 47), some (44, false), [45, 47, 44], []⟩,
    ⟨some 49, .pick (.tmp 44) (.const (.bool true)) (.tmp 48), none, [44, 48], []⟩] [0, 1, 2, 8, 49])
(.cond (.tmp 49)
(.seq (.reg false [⟨some 6, .mv (.const (.bool true)), none, [], []⟩] [6])
.ret)
.skip))
(.seq (.reg true [⟨some 50, .mv (.tmp 0), none, [0], []⟩,
    ⟨some 51, .mv (.tmp 8), none, [8], []⟩,
    ⟨some 52, .idx 1 (.tmp 50) (.tmp 51), none, [50, 51], [0, 1]⟩,
    ⟨some 53, .load false 1 (.tmp 52), none, [52], [2, 0, 1]⟩,
    ⟨some 54, .b2s (.tmp 53), none, [53], [3, 2, 0, 1]⟩,
    ⟨some 55, .mv (.tmp 1), none, [1], []⟩,
    ⟨some 56, .mv (.tmp 8), none, [8], []⟩,
    ⟨some 57, .idx 1 (.tmp 55) (.tmp 56), none, [55, 56], [5, 6]⟩,
    ⟨some 58, .load false 1 (.tmp 57), none, [57], [7, 5, 6]⟩,
    ⟨some 59, .b2s (.tmp 58), none, [58], [8, 7, 5, 6]⟩,
    ⟨some 60, .bin .neq (.tmp 54) (.tmp 59), none, [54, 59], [4, 9, 3, 2, 0, 1, 8, 7, 5, 6]⟩,
    ⟨some 61, .mv (.tmp 60), none, [60], [10, 4, 9, 3, 2, 0, 1, 8, 7, 5, 6]⟩,
    ⟨some 62, .mv (.tmp 0), some (61, false), [0, 61], [11, 10, 4, 9, 3, 2, 0, 1, 8, 7, 5, 6]⟩,
    ⟨some 63, .mv (.tmp 8), some (61, false), [8, 61], [11, 10, 4, 9, 3, 2, 0, 1, 8, 7, 5, 6]⟩,
    ⟨some 64, .idx 1 (.tmp 62) (.tmp 63), some (61, false), [62, 63, 61], [12, 13, 11, 10, 4, 9, 3, 2, 0, 1, 8, 7, 5, 6]⟩,
    ⟨some 65, .load false 1 (.tmp 64), some (61, false), [64, 61], [14, 11, 12, 13, 10, 4, 9, 3, 2, 0, 1, 8, 7, 5, 6]⟩,
    ⟨some 66, .b2s (.tmp 65), some (61, false), [65, 61], [15, 11, 14, 12, 13, 10, 4, 9, 3, 2, 0, 1, 8, 7, 5, 6]⟩,
    ⟨some 67, .mv (.tmp 2), some (61, false), [2, 61], [11, 10, 4, 9, 3, 2, 0, 1, 8, 7, 5, 6]⟩,
    ⟨some 68, .mv (.tmp 8), some (61, false), [8, 61], [11, 10, 4, 9, 3, 2, 0, 1, 8, 7, 5, 6]⟩,
    ⟨some 69, .idx 1 (.tmp 67) (.tmp 68), some (61, false), [67, 68, 61], [17, 18, 11, 10, 4, 9, 3, 2, 0, 1, 8, 7, 5, 6]⟩,
    ⟨some 70, .load false 1 (.tmp 69), some (61, false), [69, 61], [19, 11, 17, 18, 10, 4, 9, 3, 2, 0, 1, 8, 7, 5, 6]⟩,
    ⟨some 71, .b2s (.tmp 70), some (61, false), [70, 61], [20, 11, 19, 17, 18, 10, 4, 9, 3, 2, 0, 1, 8, 7, 5, 6]⟩,
    ⟨some 72, .bin .neq (.tmp 66) (.tmp 71), some (61, false), [66, 71, 61], [16, 21, 11, 15, 14, 12, 13, 10, 4, 9, 3, 2, 0, 1, 8, 7, 5, 6, 20, 19, 17, 18]⟩,
    ⟨some 73, .pick (.tmp 61) (.const (.bool true)) (.tmp 72), none, [61, 72], [11, 22, 10, 4, 9, 3, 2, 0, 1, 8, 7, 5, 6, 16, 21, 15, 14, 12, 13, 20, 19, 17, 18]⟩,
    ⟨some 6, .mv (.tmp 73), none, [73], [23, 11, 0, 1, 2, 3, 4, 5, 6, 7, 8, 9, 10, 12, 13, 14, 15, 16, 17, 18, 19, 20, 21, 22]⟩] [6])
.ret)))))))
theorem ok_13 : FnOk Tryz.prog 13 74 ac_13 [.tmp 6] := ⟨Tryz.f13, Tryz.func13, by kernel_rfl, by kernel_rfl, by kernel_rfl, by kernel_rfl, by kernel_rfl⟩
def ac_37 : AC :=
(.seq (.reg false [⟨some 0, .new 28 [(.slice none 0 0), (.int .i64 (0))], none, [], []⟩] [0])
(.seq (.reg false [⟨some 1, .build [(.int .i64 (0)), (.bool false), (.int .i64 (0)), (.slice none 0 0), (.int .i64 (0)), (.slice none 0 0)] [(0, 1, (.const (.int .i64 (1)))), (1, 1, (.const (.bool true)))], none, [], []⟩,
    ⟨some 2, .bslice 118 6 1 [(.int .i64 (0)), (.bool false), (.int .i64 (0)), (.slice none 0 0), (.int .i64 (0)), (.slice none 0 0)] [(0, 6, (.tmp 1))], none, [1], []⟩,
    ⟨some 3, .build [(.slice none 0 0), (.int .i64 (0))] [(0, 1, (.tmp 2)), (1, 1, (.const (.int .i64 (2))))], none, [2], []⟩,
    ⟨none, .store 2 (.tmp 0) (.tmp 3), none, [0, 3], []⟩] [0])
.ret))
theorem ok_37 : FnOk Tryz.prog 37 4 ac_37 [.cell 0 true 2] := ⟨Tryz.f37, Tryz.func37, by kernel_rfl, by kernel_rfl, by kernel_rfl, by kernel_rfl, by kernel_rfl⟩
def ac_43 : AC :=
(.seq (.reg false [⟨some 1, .box 55 (.tmp 0), none, [0], []⟩,
    ⟨some 2, .mv (.const (.slice none 0 0)), none, [], []⟩,
    ⟨some 3, .mv (.const (.int .i64 (0))), none, [], []⟩] [1])
(.seq (.seq (.reg false [⟨some 5, .load true 6 (.tmp 1), none, [1], []⟩,
    ⟨some 6, .call 48 [(.tmp 5)], none, [5], []⟩,
    ⟨some 4, .mv (.tmp 6), none, [6], []⟩] [1, 4])
(.seq (.reg false [⟨some 7, .mv (.tmp 4), none, [4], []⟩,
    ⟨some 8, .bin .neq (.tmp 7) (.const (.int .i64 (0))), none, [7], []⟩] [1, 4, 8])
(.cond (.tmp 8)
(.seq (.reg false [⟨some 9, .mv (.tmp 4), none, [4], []⟩,
    ⟨some 2, .mv (.const (.slice none 0 0)), none, [], []⟩,
    ⟨some 3, .mv (.tmp 9), none, [9], []⟩] [2, 3])
.ret)
.skip)))
(.seq (.reg false [⟨some 10, .foff 0 (.tmp 1), none, [1], []⟩,
    ⟨some 11, .load false 1 (.tmp 10), none, [10], []⟩,
    ⟨some 12, .foff 3 (.tmp 1), none, [1], []⟩,
    ⟨some 13, .load false 1 (.tmp 12), none, [12], []⟩,
    ⟨some 14, .foff 4 (.tmp 1), none, [1], []⟩,
    ⟨some 15, .load false 1 (.tmp 14), none, [14], []⟩,
    ⟨some 16, .bslice 3 1 2 [(.int .i64 (0)), (.int .i64 (0))] [(0, 1, (.tmp 13)), (1, 1, (.tmp 15))], none, [13, 15], []⟩,
    ⟨some 17, .foff 1 (.tmp 1), none, [1], []⟩,
    ⟨some 18, .load false 1 (.tmp 17), none, [17], []⟩,
    ⟨some 19, .s2b (.tmp 18), none, [18], []⟩,
    ⟨some 20, .foff 2 (.tmp 1), none, [1], []⟩,
    ⟨some 21, .load false 1 (.tmp 20), none, [20], []⟩,
    ⟨some 22, .s2b (.tmp 21), none, [21], []⟩,
    ⟨some 23, .foff 5 (.tmp 1), none, [1], []⟩,
    ⟨some 24, .load false 1 (.tmp 23), none, [23], []⟩,
    ⟨some 25, .bslice 37 1 3 [(.slice none 0 0), (.slice none 0 0), (.slice none 0 0)] [(0, 1, (.tmp 19)), (1, 1, (.tmp 22)), (2, 1, (.tmp 24))], none, [19, 22, 24], []⟩,
    ⟨some 26, .build [(.int .i64 (0)), (.slice none 0 0), (.slice none 0 0)] [(0, 1, (.tmp 11)), (1, 1, (.tmp 16)), (2, 1, (.tmp 25))], none, [11, 16, 25], []⟩,
    ⟨some 27, .call 96 [(.tmp 26)], none, [26], []⟩,
    ⟨some 28, .ext 0 (.tmp 27), none, [27], []⟩,
    ⟨some 29, .ext 1 (.tmp 27), none, [27], []⟩,
    ⟨some 2, .mv (.tmp 28), none, [28], []⟩,
    ⟨some 3, .mv (.tmp 29), none, [29], []⟩] [2, 3])
.ret)))
theorem ok_43 : FnOk Tryz.prog 43 30 ac_43 [.tmp 2, .tmp 3] := ⟨Tryz.f43, Tryz.func43, by kernel_rfl, by kernel_rfl, by kernel_rfl, by kernel_rfl, by kernel_rfl⟩
def ac_48 : AC :=
(.seq (.reg false [⟨some 1, .box 55 (.tmp 0), none, [0], []⟩,
    ⟨some 2, .mv (.const (.int .i64 (0))), none, [], []⟩] [1])
(.seq (.seq (.reg false [⟨some 3, .foff 0 (.tmp 1), none, [1], []⟩,
    ⟨some 4, .load false 1 (.tmp 3), none, [3], []⟩,
    ⟨some 5, .bin .lss (.tmp 4) (.const (.int .i64 (1))), none, [4], []⟩,
    ⟨some 6, .mv (.tmp 5), none, [5], []⟩,
    ⟨some 7, .foff 0 (.tmp 1), some (6, false), [1, 6], []⟩,
    ⟨some 8, .load false 1 (.tmp 7), some (6, false), [7, 6], []⟩,
    ⟨some 9, .bin .gtr (.tmp 8) (.const (.int .i64 (12))), some (6, false), [8, 6], []⟩,
    ⟨some 10, .pick (.tmp 6) (.const (.bool true)) (.tmp 9), none, [6, 9], []⟩] [1, 10])
(.cond (.tmp 10)
(.seq (.reg false [⟨some 2, .mv (.const (.int .i64 (22))), none, [], []⟩] [2])
.ret)
.skip))
(.seq (.seq (.reg false [⟨some 11, .foff 1 (.tmp 1), none, [1], []⟩,
    ⟨some 12, .load false 1 (.tmp 11), none, [11], []⟩,
    ⟨some 13, .len true (.tmp 12), none, [12], []⟩,
    ⟨some 14, .foff 2 (.tmp 1), none, [1], []⟩,
    ⟨some 15, .load false 1 (.tmp 14), none, [14], []⟩,
    ⟨some 16, .len true (.tmp 15), none, [15], []⟩,
    ⟨some 17, .mm true (.tmp 13) (.tmp 16), none, [13, 16], []⟩,
    ⟨some 18, .bin .gtr (.tmp 17) (.const (.int .i64 (255))), none, [17], []⟩,
    ⟨some 19, .mv (.tmp 18), none, [18], []⟩,
    ⟨some 20, .foff 5 (.tmp 1), some (19, false), [1, 19], []⟩,
    ⟨some 21, .load false 1 (.tmp 20), some (19, false), [20, 19], []⟩,
    ⟨some 22, .len false (.tmp 21), some (19, false), [21, 19], []⟩,
    ⟨some 23, .bin .gtr (.tmp 22) (.const (.int .i64 (4096))), some (19, false), [22, 19], []⟩,
    ⟨some 24, .pick (.tmp 19) (.const (.bool true)) (.tmp 23), none, [19, 23], []⟩] [24])
(.cond (.tmp 24)
(.seq (.reg false [⟨some 2, .mv (.const (.int .i64 (5))), none, [], []⟩] [2])
.ret)
.skip))
(.seq (.reg false [⟨some 2, .mv (.const (.int .i64 (0))), none, [], []⟩] [2])
.ret))))
theorem ok_48 : FnOk Tryz.prog 48 25 ac_48 [.tmp 2] := ⟨Tryz.f48, Tryz.func48, by kernel_rfl, by kernel_rfl, by kernel_rfl, by kernel_rfl, by kernel_rfl⟩
end Go.Proofs.YtonglhkiobibgaaGreatDoor
namespace Go.Proofs.YtonglhkiobibgaaGreatDoor
set_option maxRecDepth 100000
def ac_51 : AC :=
(.seq (.reg false [⟨some 1, .box 57 (.tmp 0), none, [0], []⟩,
    ⟨some 2, .mv (.const (.slice none 0 0)), none, [], []⟩,
    ⟨some 3, .mv (.const (.int .i64 (0))), none, [], []⟩] [1])
(.seq (.block 0 (.seq (.reg false [⟨some 8, .foff 0 (.tmp 1), none, [1], []⟩,
    ⟨some 9, .load false 1 (.tmp 8), none, [8], []⟩,
    ⟨some 10, .bin .lss (.tmp 9) (.const (.int .i64 (0))), none, [9], []⟩,
    ⟨some 11, .mv (.tmp 10), none, [10], []⟩,
    ⟨some 12, .foff 0 (.tmp 1), some (11, false), [1, 11], []⟩,
    ⟨some 13, .load false 1 (.tmp 12), some (11, false), [12, 11], []⟩,
    ⟨some 14, .bin .gtr (.tmp 13) (.const (.int .i64 (65536))), some (11, false), [13, 11], []⟩,
    ⟨some 15, .pick (.tmp 11) (.const (.bool true)) (.tmp 14), none, [11, 14], []⟩,
    ⟨some 16, .mv (.tmp 15), none, [15], []⟩,
    ⟨some 17, .foff 1 (.tmp 1), some (16, false), [1, 16], []⟩,
    ⟨some 18, .load false 1 (.tmp 17), some (16, false), [17, 16], []⟩,
    ⟨some 19, .bin .lss (.tmp 18) (.const (.int .i64 (0))), some (16, false), [18, 16], []⟩,
    ⟨some 20, .pick (.tmp 16) (.const (.bool true)) (.tmp 19), none, [16, 19], []⟩,
    ⟨some 21, .mv (.tmp 20), none, [20], []⟩,
    ⟨some 22, .foff 1 (.tmp 1), some (21, false), [1, 21], []⟩,
    ⟨some 23, .load false 1 (.tmp 22), some (21, false), [22, 21], []⟩,
    ⟨some 24, .bin .gtr (.tmp 23) (.const (.int .i64 (2147483647))), some (21, false), [23, 21], []⟩,
    ⟨some 25, .pick (.tmp 21) (.const (.bool true)) (.tmp 24), none, [21, 24], []⟩,
    ⟨some 7, .mv (.tmp 25), none, [25], []⟩] [1, 7])
(.cond (.tmp 7)
(.seq (.reg false [⟨some 2, .mv (.const (.slice none 0 0)), none, [], []⟩,
    ⟨some 3, .mv (.const (.int .i64 (4))), none, [], []⟩] [2, 3])
.ret)
(.seq (.reg false [⟨some 27, .foff 2 (.tmp 1), none, [1], []⟩,
    ⟨some 28, .load false 1 (.tmp 27), none, [27], []⟩,
    ⟨some 29, .len false (.tmp 28), none, [28], []⟩,
    ⟨some 30, .bin .gtr (.tmp 29) (.const (.int .i64 (4096))), none, [29], []⟩,
    ⟨some 26, .mv (.tmp 30), none, [30], []⟩] [1, 26])
(.cond (.tmp 26)
(.seq (.reg false [⟨some 2, .mv (.const (.slice none 0 0)), none, [], []⟩,
    ⟨some 3, .mv (.const (.int .i64 (5))), none, [], []⟩] [2, 3])
.ret)
(.seq (.reg false [⟨some 32, .foff 3 (.tmp 1), none, [1], []⟩,
    ⟨some 33, .load false 1 (.tmp 32), none, [32], []⟩,
    ⟨some 34, .len false (.tmp 33), none, [33], []⟩,
    ⟨some 35, .bin .gtr (.tmp 34) (.const (.int .i64 (64))), none, [34], []⟩,
    ⟨some 31, .mv (.tmp 35), none, [35], []⟩] [1, 31])
(.cond (.tmp 31)
(.seq (.reg false [⟨some 2, .mv (.const (.slice none 0 0)), none, [], []⟩,
    ⟨some 3, .mv (.const (.int .i64 (3))), none, [], []⟩] [2, 3])
.ret)
(.seq (.reg false [⟨some 37, .foff 3 (.tmp 1), none, [1], []⟩,
    ⟨some 38, .load false 1 (.tmp 37), none, [37], []⟩,
    ⟨some 39, .call 100 [(.tmp 38), (.func 101)], none, [38], []⟩,
    ⟨some 36, .mv (.tmp 39), none, [39], []⟩] [1, 36])
(.cond (.tmp 36)
(.seq (.reg false [⟨some 2, .mv (.const (.slice none 0 0)), none, [], []⟩,
    ⟨some 3, .mv (.const (.int .i64 (5))), none, [], []⟩] [2, 3])
.ret)
.skip)))))))))
(.seq (.reg false [⟨some 40, .foff 0 (.tmp 1), none, [1], []⟩,
    ⟨some 41, .load false 1 (.tmp 40), none, [40], []⟩,
    ⟨some 42, .foff 1 (.tmp 1), none, [1], []⟩,
    ⟨some 43, .load false 1 (.tmp 42), none, [42], []⟩,
    ⟨some 44, .bslice 3 1 2 [(.int .i64 (0)), (.int .i64 (0))] [(0, 1, (.tmp 41)), (1, 1, (.tmp 43))], none, [41, 43], []⟩,
    ⟨some 45, .foff 2 (.tmp 1), none, [1], []⟩,
    ⟨some 46, .load false 1 (.tmp 45), none, [45], []⟩,
    ⟨some 47, .bslice 37 1 1 [(.slice none 0 0)] [(0, 1, (.tmp 46))], none, [46], []⟩,
    ⟨some 48, .build [(.int .i64 (0)), (.slice none 0 0), (.slice none 0 0)] [(1, 1, (.tmp 44)), (2, 1, (.tmp 47))], none, [44, 47], []⟩,
    ⟨some 4, .new 154 [(.int .i64 (0)), (.slice none 0 0), (.slice none 0 0)], none, [], []⟩,
    ⟨none, .store 3 (.tmp 4) (.tmp 48), none, [4, 48], []⟩] [1, 4])
(.seq (.seq (.reg false [⟨some 49, .foff 3 (.tmp 1), none, [1], []⟩,
    ⟨some 50, .load false 1 (.tmp 49), none, [49], []⟩,
    ⟨some 51, .len false (.tmp 50), none, [50], []⟩,
    ⟨some 52, .mv (.const (.int .i64 (0))), none, [], []⟩] [4, 50, 51, 52])
(.block 1 (.loop (.seq (.reg false [⟨some 53, .bin .lss (.tmp 52) (.tmp 51), none, [52, 51], []⟩] [4, 50, 51, 52, 53])
(.seq (.cond (.tmp 53)
.skip
(.exit 1))
(.seq (.block 2 (.seq (.reg false [⟨some 54, .idx 1 (.tmp 50) (.tmp 52), none, [50, 52], []⟩,
    ⟨some 55, .load false 1 (.tmp 54), none, [54], []⟩,
    ⟨some 6, .mv (.tmp 55), none, [55], []⟩] [4, 6, 50, 51, 52])
(.reg false [⟨some 56, .foff 2 (.tmp 4), none, [4], []⟩,
    ⟨some 57, .load false 1 (.tmp 56), none, [56], []⟩,
    ⟨some 58, .mv (.tmp 6), none, [6], []⟩,
    ⟨some 59, .s2b (.tmp 58), none, [58], []⟩,
    ⟨some 60, .bslice 37 1 1 [(.slice none 0 0)] [(0, 1, (.tmp 59))], none, [59], []⟩,
    ⟨some 61, .append 37 1 24 (.tmp 57) (.tmp 60), none, [57, 60], []⟩,
    ⟨some 62, .foff 2 (.tmp 4), none, [4], []⟩,
    ⟨none, .store 1 (.tmp 62) (.tmp 61), none, [62, 61], []⟩] [4, 50, 51, 52])))
(.reg false [⟨some 63, .bin .add (.tmp 52) (.const (.int .i64 (1))), none, [52], []⟩,
    ⟨some 52, .mv (.tmp 63), none, [63], []⟩] [4, 50, 51, 52])))))))
(.seq (.reg false [⟨some 64, .load true 3 (.tmp 4), none, [4], []⟩,
    ⟨some 65, .call 96 [(.tmp 64)], none, [64], []⟩,
    ⟨some 66, .ext 0 (.tmp 65), none, [65], []⟩,
    ⟨some 67, .ext 1 (.tmp 65), none, [65], []⟩,
    ⟨some 2, .mv (.tmp 66), none, [66], []⟩,
    ⟨some 3, .mv (.tmp 67), none, [67], []⟩] [2, 3])
.ret)))))
theorem ok_51 : FnOk Tryz.prog 51 68 ac_51 [.tmp 2, .tmp 3] := ⟨Tryz.f51, Tryz.func51, by kernel_rfl, by kernel_rfl, by kernel_rfl, by kernel_rfl, by kernel_rfl⟩
def ac_55 : AC :=
(.seq (.reg false [⟨some 0, .mv (.const (.bool false)), none, [], []⟩] [])
(.seq (.reg false [⟨some 6, .build [(.int .i64 (0)), (.int .i64 (0)), (.int .i64 (0)), (.string (ByteArray.mk #[])), (.string (ByteArray.mk #[])), (.int .i64 (0)), (.int .i64 (0)), (.slice none 0 0), (.bool false), (.int .i64 (0)), (.int .i64 (0)), (.slice none 0 0), (.slice none 0 0)] [], none, [], []⟩,
    ⟨some 7, .bslice 167 13 1 [(.int .i64 (0)), (.int .i64 (0)), (.int .i64 (0)), (.string (ByteArray.mk #[])), (.string (ByteArray.mk #[])), (.int .i64 (0)), (.int .i64 (0)), (.slice none 0 0), (.bool false), (.int .i64 (0)), (.int .i64 (0)), (.slice none 0 0), (.slice none 0 0)] [(0, 13, (.tmp 6))], none, [6], []⟩,
    ⟨some 8, .call 103 [(.const (.slice none 0 0)), (.tmp 7)], none, [7], []⟩,
    ⟨some 5, .mv (.tmp 8), none, [8], []⟩,
    ⟨some 9, .ext 0 (.tmp 5), none, [5], []⟩,
    ⟨some 10, .ext 1 (.tmp 5), none, [5], []⟩,
    ⟨some 1, .mv (.tmp 9), none, [9], []⟩,
    ⟨some 2, .mv (.tmp 10), none, [10], []⟩] [1, 2])
(.seq (.reg false [⟨some 12, .build [(.int .i64 (0)), (.int .i64 (0)), (.int .i64 (0)), (.string (ByteArray.mk #[])), (.string (ByteArray.mk #[])), (.int .i64 (0)), (.int .i64 (0)), (.slice none 0 0), (.bool false), (.int .i64 (0)), (.int .i64 (0)), (.slice none 0 0), (.slice none 0 0)] [(8, 1, (.const (.bool true)))], none, [], []⟩,
    ⟨some 13, .bslice 167 13 1 [(.int .i64 (0)), (.int .i64 (0)), (.int .i64 (0)), (.string (ByteArray.mk #[])), (.string (ByteArray.mk #[])), (.int .i64 (0)), (.int .i64 (0)), (.slice none 0 0), (.bool false), (.int .i64 (0)), (.int .i64 (0)), (.slice none 0 0), (.slice none 0 0)] [(0, 13, (.tmp 12))], none, [12], []⟩,
    ⟨some 14, .call 103 [(.const (.slice none 0 0)), (.tmp 13)], none, [13], []⟩,
    ⟨some 11, .mv (.tmp 14), none, [14], []⟩,
    ⟨some 15, .ext 0 (.tmp 11), none, [11], []⟩,
    ⟨some 16, .ext 1 (.tmp 11), none, [11], []⟩,
    ⟨some 3, .mv (.tmp 15), none, [15], []⟩,
    ⟨some 4, .mv (.tmp 16), none, [16], []⟩] [1, 2, 3, 4])
(.seq (.reg false [⟨some 17, .mv (.tmp 2), none, [2], []⟩,
    ⟨some 18, .call 104 [(.tmp 17)], none, [17], []⟩,
    ⟨some 19, .mv (.tmp 4), none, [4], []⟩,
    ⟨some 20, .call 104 [(.tmp 19)], none, [19], []⟩,
    ⟨some 21, .bin .add (.tmp 18) (.tmp 20), none, [18, 20], []⟩,
    ⟨some 22, .bin .eql (.tmp 21) (.const (.int .i64 (0))), none, [21], []⟩,
    ⟨some 23, .mv (.tmp 22), none, [22], []⟩,
    ⟨some 24, .mv (.tmp 1), some (23, true), [1, 23], []⟩,
    ⟨some 25, .pick (.tmp 23) (.tmp 24) (.const (.bool false)), none, [23, 24], []⟩,
    ⟨some 26, .mv (.tmp 25), none, [25], []⟩,
    ⟨some 27, .mv (.tmp 3), some (26, true), [3, 26], []⟩,
    ⟨some 28, .un .not (.tmp 27), some (26, true), [27, 26], []⟩,
    ⟨some 29, .pick (.tmp 26) (.tmp 28) (.const (.bool false)), none, [26, 28], []⟩,
    ⟨some 30, .mv (.tmp 29), none, [29], []⟩,
    ⟨some 31, .call 57 [(.const (.slice none 0 0)), (.const (.slice none 0 0))], some (30, true), [30], []⟩,
    ⟨some 32, .pick (.tmp 30) (.tmp 31) (.const (.bool false)), none, [30, 31], []⟩,
    ⟨some 33, .mv (.tmp 32), none, [32], []⟩,
    ⟨some 34, .bslice 5 1 1 [(.int .u8 (0))] [(0, 1, (.const (.int .u8 (97))))], some (33, true), [33], []⟩,
    ⟨some 35, .sconv (.tmp 34), some (33, true), [34, 33], []⟩,
    ⟨some 36, .bslice 37 1 1 [(.slice none 0 0)] [(0, 1, (.tmp 35))], some (33, true), [35, 33], []⟩,
    ⟨some 37, .bslice 93 1 1 [(.slice none 0 0)] [(0, 1, (.tmp 36))], some (33, true), [36, 33], []⟩,
    ⟨some 38, .call 56 [(.tmp 37)], some (33, true), [37, 33], []⟩,
    ⟨some 39, .len false (.tmp 38), some (33, true), [38, 33], []⟩,
    ⟨some 40, .bin .eql (.tmp 39) (.const (.int .i64 (1))), some (33, true), [39, 33], []⟩,
    ⟨some 41, .pick (.tmp 33) (.tmp 40) (.const (.bool false)), none, [33, 40], []⟩,
    ⟨some 0, .mv (.tmp 41), none, [41], []⟩] [0])
.ret))))
theorem ok_55 : FnOk Tryz.prog 55 42 ac_55 [.tmp 0] := ⟨Tryz.f55, Tryz.func55, by kernel_rfl, by kernel_rfl, by kernel_rfl, by kernel_rfl, by kernel_rfl⟩
def ac_56 : AC :=
(.seq (.reg false [⟨some 2, .mv (.const (.slice none 0 0)), none, [], []⟩] [0])
(.seq (.reg false [⟨some 3, .mv (.const (.slice none 0 0)), none, [], []⟩] [0, 3])
(.seq (.seq (.reg false [⟨some 6, .mv (.tmp 0), none, [0], []⟩,
    ⟨some 7, .len false (.tmp 6), none, [6], []⟩,
    ⟨some 8, .bin .eql (.tmp 7) (.const (.int .i64 (0))), none, [7], []⟩] [0, 3, 8])
(.cond (.tmp 8)
(.seq (.reg false [⟨some 9, .mv (.tmp 3), none, [3], []⟩,
    ⟨some 2, .mv (.tmp 9), none, [9], []⟩] [2])
.ret)
.skip))
(.seq (.seq (.reg false [⟨some 10, .mv (.tmp 0), none, [0], []⟩,
    ⟨some 11, .idx 1 (.tmp 10) (.const (.int .i64 (0))), none, [10], []⟩,
    ⟨some 12, .load false 1 (.tmp 11), none, [11], []⟩,
    ⟨some 13, .len false (.tmp 12), none, [12], []⟩,
    ⟨some 14, .mv (.const (.int .i64 (0))), none, [], []⟩] [0, 3, 12, 13, 14])
(.block 0 (.loop (.seq (.reg false [⟨some 15, .bin .lss (.tmp 14) (.tmp 13), none, [14, 13], []⟩] [0, 3, 12, 13, 14, 15])
(.seq (.cond (.tmp 15)
.skip
(.exit 0))
(.seq (.block 1 (.seq (.reg false [⟨some 16, .mv (.tmp 14), none, [14], []⟩,
    ⟨some 17, .idx 1 (.tmp 12) (.tmp 14), none, [12, 14], []⟩,
    ⟨some 18, .load false 1 (.tmp 17), none, [17], []⟩,
    ⟨some 4, .new 3 [(.int .i64 (0))], none, [], []⟩,
    ⟨some 5, .new 37 [(.slice none 0 0)], none, [], []⟩,
    ⟨none, .store 1 (.tmp 4) (.tmp 16), none, [4, 16], []⟩,
    ⟨none, .store 1 (.tmp 5) (.tmp 18), none, [5, 18], []⟩] [0, 3, 4, 5, 12, 13, 14])
(.seq (.seq (.reg false [⟨some 19, .mv (.tmp 0), none, [0], []⟩,
    ⟨some 20, .clo 106 [(.tmp 4), (.tmp 5)], none, [4, 5], []⟩,
    ⟨some 21, .call 105 [(.tmp 19), (.tmp 20)], none, [19, 20], []⟩] [0, 3, 5, 12, 13, 14, 21])
(.cond (.tmp 21)
(.exit 0)
.skip))
(.reg false [⟨some 22, .mv (.tmp 3), none, [3], []⟩,
    ⟨some 23, .load false 1 (.tmp 5), none, [5], []⟩,
    ⟨some 24, .call 108 [(.tmp 23)], none, [23], []⟩,
    ⟨some 25, .bslice 37 1 1 [(.slice none 0 0)] [(0, 1, (.tmp 24))], none, [24], []⟩,
    ⟨some 26, .append 37 1 24 (.tmp 22) (.tmp 25), none, [22, 25], []⟩,
    ⟨some 3, .mv (.tmp 26), none, [26], []⟩] [0, 3, 12, 13, 14]))))
(.reg false [⟨some 27, .bin .add (.tmp 14) (.const (.int .i64 (1))), none, [14], []⟩,
    ⟨some 14, .mv (.tmp 27), none, [27], []⟩] [0, 3, 12, 13, 14])))))))
(.seq (.reg false [⟨some 28, .mv (.tmp 3), none, [3], []⟩,
    ⟨some 2, .mv (.tmp 28), none, [28], []⟩] [2])
.ret)))))
theorem ok_56 : FnOk Tryz.prog 56 29 ac_56 [.tmp 2] := ⟨Tryz.f56, Tryz.func56, by kernel_rfl, by kernel_rfl, by kernel_rfl, by kernel_rfl, by kernel_rfl⟩
def ac_57 : AC :=
(.seq (.reg false [⟨some 4, .mv (.const (.bool false)), none, [], []⟩] [0, 1])
(.seq (.reg false [⟨some 5, .mv (.tmp 0), none, [0], []⟩,
    ⟨some 6, .len false (.tmp 5), none, [5], []⟩,
    ⟨some 7, .mv (.tmp 1), none, [1], []⟩,
    ⟨some 8, .len false (.tmp 7), none, [7], []⟩,
    ⟨some 9, .bin .leq (.tmp 6) (.tmp 8), none, [6, 8], []⟩,
    ⟨some 10, .mv (.tmp 9), none, [9], []⟩,
    ⟨some 11, .mv (.tmp 0), some (10, true), [0, 10], []⟩,
    ⟨some 12, .mv (.tmp 1), some (10, true), [1, 10], []⟩,
    ⟨some 13, .mv (.tmp 0), some (10, true), [0, 10], []⟩,
    ⟨some 14, .len false (.tmp 13), some (10, true), [13, 10], []⟩,
    ⟨some 15, .mv (.tmp 1), some (10, true), [1, 10], []⟩,
    ⟨some 16, .len false (.tmp 15), some (10, true), [15, 10], []⟩,
    ⟨some 17, .mm false (.tmp 14) (.tmp 16), some (10, true), [14, 16, 10], []⟩,
    ⟨some 18, .slice 1 (.tmp 12) none (some (.tmp 17)), some (10, true), [12, 17, 10], []⟩,
    ⟨some 19, .call 109 [(.tmp 11), (.tmp 18), (.func 107)], some (10, true), [11, 18, 10], []⟩,
    ⟨some 20, .pick (.tmp 10) (.tmp 19) (.const (.bool false)), none, [10, 19], []⟩,
    ⟨some 4, .mv (.tmp 20), none, [20], []⟩] [4])
.ret))
theorem ok_57 : FnOk Tryz.prog 57 21 ac_57 [.tmp 4] := ⟨Tryz.f57, Tryz.func57, by kernel_rfl, by kernel_rfl, by kernel_rfl, by kernel_rfl, by kernel_rfl⟩
end Go.Proofs.YtonglhkiobibgaaGreatDoor
namespace Go.Proofs.YtonglhkiobibgaaGreatDoor
set_option maxRecDepth 100000
def ac_96 : AC :=
(.seq (.reg false [⟨some 1, .box 154 (.tmp 0), none, [0], []⟩,
    ⟨some 2, .mv (.const (.slice none 0 0)), none, [], []⟩,
    ⟨some 3, .mv (.const (.int .i64 (0))), none, [], []⟩] [1])
(.seq (.seq (.reg false [⟨some 10, .load true 3 (.tmp 1), none, [1], []⟩,
    ⟨some 11, .call 148 [(.tmp 10)], none, [10], []⟩,
    ⟨some 4, .mv (.tmp 11), none, [11], []⟩] [1, 4])
(.seq (.reg false [⟨some 12, .mv (.tmp 4), none, [4], []⟩,
    ⟨some 13, .bin .neq (.tmp 12) (.const (.int .i64 (0))), none, [12], []⟩] [1, 4, 13])
(.cond (.tmp 13)
(.seq (.reg false [⟨some 14, .mv (.tmp 4), none, [4], []⟩,
    ⟨some 2, .mv (.const (.slice none 0 0)), none, [], []⟩,
    ⟨some 3, .mv (.tmp 14), none, [14], []⟩] [2, 3])
.ret)
.skip)))
(.seq (.reg false [⟨some 15, .foff 0 (.tmp 1), none, [1], []⟩,
    ⟨some 16, .load false 1 (.tmp 15), none, [15], []⟩,
    ⟨some 17, .conv .u8 (.tmp 16), none, [16], []⟩,
    ⟨some 18, .foff 1 (.tmp 1), none, [1], []⟩,
    ⟨some 19, .load false 1 (.tmp 18), none, [18], []⟩,
    ⟨some 20, .len false (.tmp 19), none, [19], []⟩,
    ⟨some 21, .conv .u8 (.tmp 20), none, [20], []⟩,
    ⟨some 22, .bslice 5 1 2 [(.int .u8 (0)), (.int .u8 (0))] [(0, 1, (.tmp 17)), (1, 1, (.tmp 21))], none, [17, 21], []⟩,
    ⟨some 5, .mv (.tmp 22), none, [22], []⟩] [1, 5])
(.seq (.seq (.reg false [⟨some 23, .foff 1 (.tmp 1), none, [1], []⟩,
    ⟨some 24, .load false 1 (.tmp 23), none, [23], []⟩,
    ⟨some 25, .len false (.tmp 24), none, [24], []⟩,
    ⟨some 26, .mv (.const (.int .i64 (0))), none, [], []⟩] [1, 5, 24, 25, 26])
(.block 0 (.loop (.seq (.reg false [⟨some 27, .bin .lss (.tmp 26) (.tmp 25), none, [26, 25], []⟩] [1, 5, 24, 25, 26, 27])
(.seq (.cond (.tmp 27)
.skip
(.exit 0))
(.seq (.block 1 (.seq (.reg false [⟨some 28, .idx 1 (.tmp 24) (.tmp 26), none, [24, 26], []⟩,
    ⟨some 29, .load false 1 (.tmp 28), none, [28], []⟩,
    ⟨some 7, .mv (.tmp 29), none, [29], []⟩] [1, 5, 7, 24, 25, 26])
(.reg false [⟨some 30, .mv (.tmp 5), none, [5], []⟩,
    ⟨some 31, .mv (.tmp 7), none, [7], []⟩,
    ⟨some 32, .bin .shl (.tmp 31) (.const (.int .u64 (1))), none, [31], []⟩,
    ⟨some 33, .mv (.tmp 7), none, [7], []⟩,
    ⟨some 34, .bin .shr (.tmp 33) (.const (.int .u64 (63))), none, [33], []⟩,
    ⟨some 35, .bin .xor (.tmp 32) (.tmp 34), none, [32, 34], []⟩,
    ⟨some 36, .conv .u64 (.tmp 35), none, [35], []⟩,
    ⟨some 37, .call 149 [(.tmp 30), (.tmp 36)], none, [30, 36], []⟩,
    ⟨some 5, .mv (.tmp 37), none, [37], []⟩] [1, 5, 24, 25, 26])))
(.reg false [⟨some 38, .bin .add (.tmp 26) (.const (.int .i64 (1))), none, [26], []⟩,
    ⟨some 26, .mv (.tmp 38), none, [38], []⟩] [1, 5, 24, 25, 26])))))))
(.seq (.reg false [⟨some 39, .mv (.tmp 5), none, [5], []⟩,
    ⟨some 40, .foff 2 (.tmp 1), none, [1], []⟩,
    ⟨some 41, .load false 1 (.tmp 40), none, [40], []⟩,
    ⟨some 42, .len false (.tmp 41), none, [41], []⟩,
    ⟨some 43, .conv .u8 (.tmp 42), none, [42], []⟩,
    ⟨some 44, .bslice 5 1 1 [(.int .u8 (0))] [(0, 1, (.tmp 43))], none, [43], []⟩,
    ⟨some 45, .append 5 1 1 (.tmp 39) (.tmp 44), none, [39, 44], []⟩,
    ⟨some 5, .mv (.tmp 45), none, [45], []⟩] [1, 5])
(.seq (.seq (.reg false [⟨some 46, .foff 2 (.tmp 1), none, [1], []⟩,
    ⟨some 47, .load false 1 (.tmp 46), none, [46], []⟩,
    ⟨some 48, .len false (.tmp 47), none, [47], []⟩,
    ⟨some 49, .mv (.const (.int .i64 (0))), none, [], []⟩] [5, 47, 48, 49])
(.block 2 (.loop (.seq (.reg false [⟨some 50, .bin .lss (.tmp 49) (.tmp 48), none, [49, 48], []⟩] [5, 47, 48, 49, 50])
(.seq (.cond (.tmp 50)
.skip
(.exit 2))
(.seq (.block 3 (.seq (.reg false [⟨some 51, .idx 1 (.tmp 47) (.tmp 49), none, [47, 49], []⟩,
    ⟨some 52, .load false 1 (.tmp 51), none, [51], []⟩,
    ⟨some 9, .mv (.tmp 52), none, [52], []⟩] [5, 9, 47, 48, 49])
(.reg false [⟨some 53, .mv (.tmp 5), none, [5], []⟩,
    ⟨some 54, .mv (.tmp 9), none, [9], []⟩,
    ⟨some 55, .len false (.tmp 54), none, [54], []⟩,
    ⟨some 56, .conv .u64 (.tmp 55), none, [55], []⟩,
    ⟨some 57, .call 149 [(.tmp 53), (.tmp 56)], none, [53, 56], []⟩,
    ⟨some 58, .mv (.tmp 9), none, [9], []⟩,
    ⟨some 59, .append 5 1 1 (.tmp 57) (.tmp 58), none, [57, 58], []⟩,
    ⟨some 5, .mv (.tmp 59), none, [59], []⟩] [5, 47, 48, 49])))
(.reg false [⟨some 60, .bin .add (.tmp 49) (.const (.int .i64 (1))), none, [49], []⟩,
    ⟨some 49, .mv (.tmp 60), none, [60], []⟩] [5, 47, 48, 49])))))))
(.seq (.reg false [⟨some 61, .mv (.tmp 5), none, [5], []⟩,
    ⟨some 62, .call 150 [(.tmp 61)], none, [61], []⟩,
    ⟨some 2, .mv (.tmp 62), none, [62], []⟩,
    ⟨some 3, .mv (.const (.int .i64 (0))), none, [], []⟩] [2, 3])
.ret)))))))
theorem ok_96 : FnOk Tryz.prog 96 63 ac_96 [.tmp 2, .tmp 3] := ⟨Tryz.f96, Tryz.func96, by kernel_rfl, by kernel_rfl, by kernel_rfl, by kernel_rfl, by kernel_rfl⟩
def ac_100 : AC :=
(.seq (.reg false [⟨some 4, .mv (.const (.bool false)), none, [], []⟩] [0, 1])
(.seq (.reg false [⟨some 5, .mv (.tmp 0), none, [0], []⟩,
    ⟨some 6, .mv (.tmp 1), none, [1], []⟩,
    ⟨some 7, .call 164 [(.tmp 5), (.tmp 6)], none, [5, 6], []⟩,
    ⟨some 8, .bin .geq (.tmp 7) (.const (.int .i64 (0))), none, [7], []⟩,
    ⟨some 4, .mv (.tmp 8), none, [8], []⟩] [4])
.ret))
theorem ok_100 : FnOk Tryz.prog 100 9 ac_100 [.tmp 4] := ⟨Tryz.f100, Tryz.func100, by kernel_rfl, by kernel_rfl, by kernel_rfl, by kernel_rfl, by kernel_rfl⟩
def ac_101 : AC :=
(.seq (.reg false [⟨some 2, .mv (.const (.bool false)), none, [], []⟩] [0])
(.seq (.reg false [⟨some 3, .mv (.tmp 0), none, [0], []⟩,
    ⟨some 4, .len true (.tmp 3), none, [3], []⟩,
    ⟨some 5, .bin .gtr (.tmp 4) (.const (.int .i64 (255))), none, [4], []⟩,
    ⟨some 2, .mv (.tmp 5), none, [5], []⟩] [2])
.ret))
theorem ok_101 : FnOk Tryz.prog 101 6 ac_101 [.tmp 2] := ⟨Tryz.f101, Tryz.func101, by kernel_rfl, by kernel_rfl, by kernel_rfl, by kernel_rfl, by kernel_rfl⟩
def ac_103 : AC :=
(.seq (.reg false [⟨some 4, .mv (.const (.bool false)), none, [], []⟩,
    ⟨some 5, .mv (.const (.int .i64 (0))), none, [], []⟩] [0, 1])
(.seq (.seq (.reg false [⟨some 26, .mv (.tmp 0), none, [0], []⟩,
    ⟨some 27, .len false (.tmp 26), none, [26], []⟩,
    ⟨some 28, .mv (.tmp 1), none, [1], []⟩,
    ⟨some 29, .len false (.tmp 28), none, [28], []⟩,
    ⟨some 30, .mm true (.tmp 27) (.tmp 29), none, [27, 29], []⟩,
    ⟨some 31, .bin .gtr (.tmp 30) (.const (.int .i64 (512))), none, [30], []⟩] [0, 1, 31])
(.cond (.tmp 31)
(.seq (.reg false [⟨some 4, .mv (.const (.bool false)), none, [], []⟩,
    ⟨some 5, .mv (.const (.int .i64 (3))), none, [], []⟩] [4, 5])
.ret)
.skip))
(.seq (.reg false [⟨some 32, .mkmap , none, [], []⟩,
    ⟨some 33, .mkmap , none, [], []⟩,
    ⟨some 6, .mv (.tmp 32), none, [32], []⟩,
    ⟨some 7, .mv (.tmp 33), none, [33], []⟩] [0, 1, 6, 7])
(.seq (.seq (.reg false [⟨some 34, .mv (.tmp 0), none, [0], []⟩,
    ⟨some 35, .len false (.tmp 34), none, [34], []⟩,
    ⟨some 36, .mv (.const (.int .i64 (0))), none, [], []⟩] [0, 1, 6, 7, 34, 35, 36])
(.block 0 (.loop (.seq (.reg false [⟨some 37, .bin .lss (.tmp 36) (.tmp 35), none, [36, 35], []⟩] [0, 1, 6, 7, 34, 35, 36, 37])
(.seq (.cond (.tmp 37)
.skip
(.exit 0))
(.seq (.block 1 (.seq (.reg false [⟨some 38, .idx 1 (.tmp 34) (.tmp 36), none, [34, 36], []⟩,
    ⟨some 39, .load false 1 (.tmp 38), none, [38], []⟩,
    ⟨some 9, .mv (.tmp 39), none, [39], []⟩] [0, 1, 6, 7, 9, 34, 35, 36])
(.seq (.reg false [⟨some 41, .mv (.tmp 9), none, [9], []⟩,
    ⟨some 42, .call 165 [(.tmp 41)], none, [41], []⟩,
    ⟨some 40, .mv (.tmp 42), none, [42], []⟩,
    ⟨some 43, .ext 0 (.tmp 40), none, [40], []⟩,
    ⟨some 44, .ext 1 (.tmp 40), none, [40], []⟩,
    ⟨some 10, .new 245 [(.int .i64 (0)), (.int .i64 (0)), (.slice none 0 0)], none, [], []⟩,
    ⟨none, .store 3 (.tmp 10) (.tmp 43), none, [10, 43], []⟩,
    ⟨some 11, .mv (.tmp 44), none, [44], []⟩] [0, 1, 6, 7, 10, 11, 34, 35, 36])
(.seq (.reg false [⟨some 45, .foff 0 (.tmp 10), none, [10], []⟩,
    ⟨some 46, .load false 1 (.tmp 45), none, [45], []⟩,
    ⟨some 47, .foff 1 (.tmp 10), none, [10], []⟩,
    ⟨some 48, .load false 1 (.tmp 47), none, [47], []⟩,
    ⟨some 49, .build [(.int .i64 (0)), (.int .i64 (0))] [(0, 1, (.tmp 46)), (1, 1, (.tmp 48))], none, [46, 48], []⟩,
    ⟨some 12, .new 249 [(.int .i64 (0)), (.int .i64 (0))], none, [], []⟩,
    ⟨none, .store 2 (.tmp 12) (.tmp 49), none, [12, 49], []⟩] [0, 1, 6, 7, 10, 11, 12, 34, 35, 36])
(.seq (.reg false [⟨some 50, .mv (.tmp 11), none, [11], []⟩,
    ⟨some 51, .bin .eql (.tmp 50) (.const (.int .i64 (0))), none, [50], []⟩] [0, 1, 6, 7, 10, 12, 34, 35, 36, 51])
(.cond (.tmp 51)
(.seq (.reg false [⟨some 53, .mv (.tmp 6), none, [6], []⟩,
    ⟨some 54, .load true 2 (.tmp 12), none, [12], []⟩,
    ⟨some 55, .mlook0 [.i, .i] (.slice none 0 0) true (.tmp 53) (.tmp 54), none, [53, 54], []⟩,
    ⟨some 52, .mv (.tmp 55), none, [55], []⟩,
    ⟨some 56, .ext 0 (.tmp 52), none, [52], []⟩,
    ⟨some 57, .ext 1 (.tmp 52), none, [52], []⟩,
    ⟨some 13, .mv (.tmp 56), none, [56], []⟩,
    ⟨some 14, .mv (.tmp 57), none, [57], []⟩] [0, 1, 6, 7, 10, 12, 14, 34, 35, 36])
(.seq (.reg false [⟨some 58, .mv (.tmp 14), none, [14], []⟩,
    ⟨some 59, .un .not (.tmp 58), none, [58], []⟩] [0, 1, 6, 7, 10, 12, 34, 35, 36, 59])
(.cond (.tmp 59)
(.reg false [⟨some 60, .mv (.tmp 6), none, [6], []⟩,
    ⟨some 61, .load true 2 (.tmp 12), none, [12], []⟩,
    ⟨some 62, .foff 2 (.tmp 10), none, [10], []⟩,
    ⟨some 63, .load false 1 (.tmp 62), none, [62], []⟩,
    ⟨none, .die , none, [60, 61, 63], []⟩] [0, 1, 6, 7, 34, 35, 36])
.skip)))
.skip))))))
(.reg false [⟨some 64, .bin .add (.tmp 36) (.const (.int .i64 (1))), none, [36], []⟩,
    ⟨some 36, .mv (.tmp 64), none, [64], []⟩] [0, 1, 6, 7, 34, 35, 36])))))))
(.seq (.seq (.reg false [⟨some 65, .mv (.tmp 0), none, [0], []⟩,
    ⟨some 66, .call 166 [(.tmp 65)], none, [65], []⟩,
    ⟨some 67, .len false (.tmp 66), none, [66], []⟩,
    ⟨some 68, .mv (.const (.int .i64 (0))), none, [], []⟩] [1, 6, 7, 66, 67, 68])
(.block 2 (.loop (.seq (.reg false [⟨some 69, .bin .lss (.tmp 68) (.tmp 67), none, [68, 67], []⟩] [1, 6, 7, 66, 67, 68, 69])
(.seq (.cond (.tmp 69)
.skip
(.exit 2))
(.seq (.block 3 (.seq (.reg false [⟨some 70, .idx 3 (.tmp 66) (.tmp 68), none, [66, 68], []⟩,
    ⟨some 71, .load true 3 (.tmp 70), none, [70], []⟩,
    ⟨some 16, .new 254 [(.int .i64 (0)), (.int .i64 (0)), (.slice none 0 0)], none, [], []⟩,
    ⟨none, .store 3 (.tmp 16) (.tmp 71), none, [16, 71], []⟩] [1, 6, 7, 16, 66, 67, 68])
(.reg false [⟨some 72, .mv (.tmp 7), none, [7], []⟩,
    ⟨some 73, .foff 0 (.tmp 16), none, [16], []⟩,
    ⟨some 74, .load false 1 (.tmp 73), none, [73], []⟩,
    ⟨some 75, .foff 1 (.tmp 16), none, [16], []⟩,
    ⟨some 76, .load false 1 (.tmp 75), none, [75], []⟩,
    ⟨some 77, .build [(.int .i64 (0)), (.int .i64 (0))] [(0, 1, (.tmp 74)), (1, 1, (.tmp 76))], none, [74, 76], []⟩,
    ⟨some 78, .foff 2 (.tmp 16), none, [16], []⟩,
    ⟨some 79, .load false 1 (.tmp 78), none, [78], []⟩,
    ⟨none, .die , none, [72, 77, 79], []⟩] [1, 6, 7, 66, 67, 68])))
(.reg false [⟨some 80, .bin .add (.tmp 68) (.const (.int .i64 (1))), none, [68], []⟩,
    ⟨some 68, .mv (.tmp 80), none, [80], []⟩] [1, 6, 7, 66, 67, 68])))))))
(.seq (.seq (.reg false [⟨some 81, .mv (.tmp 1), none, [1], []⟩,
    ⟨some 82, .len false (.tmp 81), none, [81], []⟩,
    ⟨some 83, .mv (.const (.int .i64 (0))), none, [], []⟩] [6, 7, 81, 82, 83])
(.block 4 (.loop (.seq (.reg false [⟨some 84, .bin .lss (.tmp 83) (.tmp 82), none, [83, 82], []⟩] [6, 7, 81, 82, 83, 84])
(.seq (.cond (.tmp 84)
.skip
(.exit 4))
(.seq (.block 5 (.seq (.reg false [⟨some 85, .idx 13 (.tmp 81) (.tmp 83), none, [81, 83], []⟩,
    ⟨some 86, .load true 13 (.tmp 85), none, [85], []⟩,
    ⟨some 18, .new 167 [(.int .i64 (0)), (.int .i64 (0)), (.int .i64 (0)), (.string (ByteArray.mk #[])), (.string (ByteArray.mk #[])), (.int .i64 (0)), (.int .i64 (0)), (.slice none 0 0), (.bool false), (.int .i64 (0)), (.int .i64 (0)), (.slice none 0 0), (.slice none 0 0)], none, [], []⟩,
    ⟨none, .store 13 (.tmp 18) (.tmp 86), none, [18, 86], []⟩] [6, 7, 18, 81, 82, 83])
(.seq (.seq (.reg false [⟨some 87, .foff 8 (.tmp 18), none, [18], []⟩,
    ⟨some 88, .load false 1 (.tmp 87), none, [87], []⟩,
    ⟨some 89, .un .not (.tmp 88), none, [88], []⟩] [6, 7, 18, 81, 82, 83, 89])
(.cond (.tmp 89)
(.exit 5)
.skip))
(.seq (.reg false [⟨some 90, .foff 0 (.tmp 18), none, [18], []⟩,
    ⟨some 91, .load false 1 (.tmp 90), none, [90], []⟩,
    ⟨some 92, .foff 1 (.tmp 18), none, [18], []⟩,
    ⟨some 93, .load false 1 (.tmp 92), none, [92], []⟩,
    ⟨some 94, .build [(.int .i64 (0)), (.int .i64 (0))] [(0, 1, (.tmp 91)), (1, 1, (.tmp 93))], none, [91, 93], []⟩,
    ⟨some 19, .new 249 [(.int .i64 (0)), (.int .i64 (0))], none, [], []⟩,
    ⟨none, .store 2 (.tmp 19) (.tmp 94), none, [19, 94], []⟩] [6, 7, 18, 19, 81, 82, 83])
(.seq (.reg false [⟨some 96, .foff 2 (.tmp 18), none, [18], []⟩,
    ⟨some 97, .load true 6 (.tmp 96), none, [96], []⟩,
    ⟨some 98, .call 43 [(.tmp 97)], none, [97], []⟩,
    ⟨some 95, .mv (.tmp 98), none, [98], []⟩,
    ⟨some 99, .ext 0 (.tmp 95), none, [95], []⟩,
    ⟨some 100, .ext 1 (.tmp 95), none, [95], []⟩,
    ⟨some 20, .mv (.tmp 99), none, [99], []⟩,
    ⟨some 21, .mv (.tmp 100), none, [100], []⟩] [6, 7, 18, 19, 20, 21, 81, 82, 83])
(.seq (.reg false [⟨some 102, .foff 9 (.tmp 18), none, [18], []⟩,
    ⟨some 103, .load true 4 (.tmp 102), none, [102], []⟩,
    ⟨some 104, .call 51 [(.tmp 103)], none, [103], []⟩,
    ⟨some 101, .mv (.tmp 104), none, [104], []⟩,
    ⟨some 105, .ext 0 (.tmp 101), none, [101], []⟩,
    ⟨some 106, .ext 1 (.tmp 101), none, [101], []⟩,
    ⟨some 22, .mv (.tmp 105), none, [105], []⟩,
    ⟨some 23, .mv (.tmp 106), none, [106], []⟩] [6, 7, 19, 20, 21, 22, 23, 81, 82, 83])
(.seq (.reg false [⟨some 108, .mv (.tmp 7), none, [7], []⟩,
    ⟨some 109, .load true 2 (.tmp 19), none, [19], []⟩,
    ⟨some 110, .mlook0 [.i, .i] (.slice none 0 0) true (.tmp 108) (.tmp 109), none, [108, 109], []⟩,
    ⟨some 107, .mv (.tmp 110), none, [110], []⟩,
    ⟨some 111, .ext 0 (.tmp 107), none, [107], []⟩,
    ⟨some 112, .ext 1 (.tmp 107), none, [107], []⟩,
    ⟨some 24, .mv (.tmp 111), none, [111], []⟩,
    ⟨some 25, .mv (.tmp 112), none, [112], []⟩] [6, 7, 19, 20, 21, 22, 23, 24, 25, 81, 82, 83])
(.seq (.reg false [⟨some 113, .mv (.tmp 21), none, [21], []⟩,
    ⟨some 114, .bin .neq (.tmp 113) (.const (.int .i64 (0))), none, [113], []⟩,
    ⟨some 115, .mv (.tmp 114), none, [114], []⟩,
    ⟨some 116, .mv (.tmp 23), some (115, false), [23, 115], []⟩,
    ⟨some 117, .bin .neq (.tmp 116) (.const (.int .i64 (0))), some (115, false), [116, 115], []⟩,
    ⟨some 118, .pick (.tmp 115) (.const (.bool true)) (.tmp 117), none, [115, 117], []⟩,
    ⟨some 119, .mv (.tmp 118), none, [118], []⟩,
    ⟨some 120, .mv (.tmp 25), some (119, false), [25, 119], []⟩,
    ⟨some 121, .un .not (.tmp 120), some (119, false), [120, 119], []⟩,
    ⟨some 122, .pick (.tmp 119) (.const (.bool true)) (.tmp 121), none, [119, 121], []⟩,
    ⟨some 123, .mv (.tmp 122), none, [122], []⟩,
    ⟨some 124, .mv (.tmp 24), some (123, false), [24, 123], []⟩,
    ⟨some 125, .mv (.tmp 22), some (123, false), [22, 123], []⟩,
    ⟨some 126, .call 107 [(.tmp 124), (.tmp 125)], some (123, false), [124, 125, 123], []⟩,
    ⟨some 127, .un .not (.tmp 126), some (123, false), [126, 123], []⟩,
    ⟨some 128, .pick (.tmp 123) (.const (.bool true)) (.tmp 127), none, [123, 127], []⟩,
    ⟨some 129, .mv (.tmp 128), none, [128], []⟩,
    ⟨some 130, .mv (.tmp 6), some (129, false), [6, 129], []⟩,
    ⟨some 131, .load true 2 (.tmp 19), some (129, false), [19, 129], []⟩,
    ⟨some 132, .mlook0 [.i, .i] (.slice none 0 0) false (.tmp 130) (.tmp 131), some (129, false), [130, 131, 129], []⟩,
    ⟨some 133, .mv (.tmp 20), some (129, false), [20, 129], []⟩,
    ⟨some 134, .call 107 [(.tmp 132), (.tmp 133)], some (129, false), [132, 133, 129], []⟩,
    ⟨some 135, .un .not (.tmp 134), some (129, false), [134, 129], []⟩,
    ⟨some 136, .pick (.tmp 129) (.const (.bool true)) (.tmp 135), none, [129, 135], []⟩] [6, 7, 81, 82, 83, 136])
(.cond (.tmp 136)
(.seq (.reg false [⟨some 4, .mv (.const (.bool false)), none, [], []⟩,
    ⟨some 5, .mv (.const (.int .i64 (0))), none, [], []⟩] [4, 5])
.ret)
.skip)))))))))
(.reg false [⟨some 137, .bin .add (.tmp 83) (.const (.int .i64 (1))), none, [83], []⟩,
    ⟨some 83, .mv (.tmp 137), none, [137], []⟩] [6, 7, 81, 82, 83])))))))
(.seq (.reg false [⟨some 4, .mv (.const (.bool true)), none, [], []⟩,
    ⟨some 5, .mv (.const (.int .i64 (0))), none, [], []⟩] [4, 5])
.ret)))))))
theorem ok_103 : FnOk Tryz.prog 103 138 ac_103 [.tmp 4, .tmp 5] := ⟨Tryz.f103, Tryz.func103, by kernel_rfl, by kernel_rfl, by kernel_rfl, by kernel_rfl, by kernel_rfl⟩
def ac_104 : AC :=
(.seq (.reg false [⟨some 2, .mv (.const (.int .i64 (0))), none, [], []⟩] [0])
(.seq (.reg false [⟨some 3, .mv (.tmp 0), none, [0], []⟩,
    ⟨some 2, .mv (.tmp 3), none, [3], []⟩] [2])
.ret))
theorem ok_104 : FnOk Tryz.prog 104 4 ac_104 [.tmp 2] := ⟨Tryz.f104, Tryz.func104, by kernel_rfl, by kernel_rfl, by kernel_rfl, by kernel_rfl, by kernel_rfl⟩
def ac_105 : AC :=
(.seq (.reg false [⟨some 4, .mv (.const (.bool false)), none, [], []⟩] [0, 1])
(.seq (.reg false [⟨some 5, .mv (.tmp 0), none, [0], []⟩,
    ⟨some 6, .mv (.tmp 1), none, [1], []⟩,
    ⟨some 7, .call 167 [(.tmp 5), (.tmp 6)], none, [5, 6], []⟩,
    ⟨some 8, .bin .geq (.tmp 7) (.const (.int .i64 (0))), none, [7], []⟩,
    ⟨some 4, .mv (.tmp 8), none, [8], []⟩] [4])
.ret))
theorem ok_105 : FnOk Tryz.prog 105 9 ac_105 [.tmp 4] := ⟨Tryz.f105, Tryz.func105, by kernel_rfl, by kernel_rfl, by kernel_rfl, by kernel_rfl, by kernel_rfl⟩
def ac_106 : AC :=
(.seq (.reg false [⟨some 4, .mv (.const (.bool false)), none, [], []⟩] [0, 1, 2])
(.seq (.reg true [⟨some 5, .load false 1 (.tmp 1), none, [1], []⟩,
    ⟨some 6, .mv (.tmp 0), none, [0], []⟩,
    ⟨some 7, .len false (.tmp 6), none, [6], [1]⟩,
    ⟨some 8, .bin .geq (.tmp 5) (.tmp 7), none, [5, 7], [0, 2, 1]⟩,
    ⟨some 9, .mv (.tmp 8), none, [8], [3, 0, 2, 1]⟩,
    ⟨some 10, .mv (.tmp 0), some (9, false), [0, 9], [4, 3, 0, 2, 1]⟩,
    ⟨some 11, .load false 1 (.tmp 1), some (9, false), [1, 9], [4, 3, 0, 2, 1]⟩,
    ⟨some 12, .idx 1 (.tmp 10) (.tmp 11), some (9, false), [10, 11, 9], [5, 6, 4, 3, 0, 2, 1]⟩,
    ⟨some 13, .load false 1 (.tmp 12), some (9, false), [12, 9], [7, 4, 5, 6, 3, 0, 2, 1]⟩,
    ⟨some 14, .load false 1 (.tmp 2), some (9, false), [2, 9], [4, 3, 0, 2, 1]⟩,
    ⟨some 15, .call 107 [(.tmp 13), (.tmp 14)], some (9, false), [13, 14, 9], [8, 9, 4, 7, 5, 6, 3, 0, 2, 1]⟩,
    ⟨some 16, .un .not (.tmp 15), some (9, false), [15, 9], [10, 4, 8, 9, 7, 5, 6, 3, 0, 2, 1]⟩,
    ⟨some 17, .pick (.tmp 9) (.const (.bool true)) (.tmp 16), none, [9, 16], [4, 11, 3, 0, 2, 1, 10, 8, 9, 7, 5, 6]⟩,
    ⟨some 4, .mv (.tmp 17), none, [17], [12, 10, 0, 1, 2, 3, 4, 5, 6, 7, 8, 9, 11]⟩] [4])
.ret))
theorem ok_106 : FnOk Tryz.prog 106 18 ac_106 [.tmp 4] := ⟨Tryz.f106, Tryz.func106, by kernel_rfl, by kernel_rfl, by kernel_rfl, by kernel_rfl, by kernel_rfl⟩
def ac_107 : AC :=
(.seq (.reg false [⟨some 4, .mv (.const (.bool false)), none, [], []⟩] [0, 1])
(.seq (.reg false [⟨some 5, .mv (.tmp 0), none, [0], []⟩,
    ⟨some 6, .b2s (.tmp 5), none, [5], []⟩,
    ⟨some 7, .mv (.tmp 1), none, [1], []⟩,
    ⟨some 8, .b2s (.tmp 7), none, [7], []⟩,
    ⟨some 9, .bin .eql (.tmp 6) (.tmp 8), none, [6, 8], []⟩,
    ⟨some 4, .mv (.tmp 9), none, [9], []⟩] [4])
.ret))
theorem ok_107 : FnOk Tryz.prog 107 10 ac_107 [.tmp 4] := ⟨Tryz.f107, Tryz.func107, by kernel_rfl, by kernel_rfl, by kernel_rfl, by kernel_rfl, by kernel_rfl⟩
def ac_108 : AC :=
(.seq (.reg false [⟨some 2, .mv (.const (.slice none 0 0)), none, [], []⟩] [0])
(.seq (.seq (.reg false [⟨some 3, .mv (.tmp 0), none, [0], []⟩,
    ⟨some 4, .isnil false (.slice none 0 0) (.tmp 3), none, [3], []⟩] [0, 4])
(.cond (.tmp 4)
(.seq (.reg false [⟨some 2, .mv (.const (.slice none 0 0)), none, [], []⟩] [2])
.ret)
.skip))
(.seq (.reg false [⟨some 5, .bslice 5 1 0 [] [], none, [], []⟩,
    ⟨some 6, .mv (.tmp 0), none, [0], []⟩,
    ⟨some 7, .append 5 1 1 (.tmp 5) (.tmp 6), none, [5, 6], []⟩,
    ⟨some 2, .mv (.tmp 7), none, [7], []⟩] [2])
.ret)))
theorem ok_108 : FnOk Tryz.prog 108 8 ac_108 [.tmp 2] := ⟨Tryz.f108, Tryz.func108, by kernel_rfl, by kernel_rfl, by kernel_rfl, by kernel_rfl, by kernel_rfl⟩
def ac_109 : AC :=
(.seq (.reg false [⟨some 6, .mv (.const (.bool false)), none, [], []⟩] [0, 1, 2])
(.seq (.seq (.reg false [⟨some 10, .mv (.tmp 0), none, [0], []⟩,
    ⟨some 11, .len false (.tmp 10), none, [10], []⟩,
    ⟨some 12, .mv (.tmp 1), none, [1], []⟩,
    ⟨some 13, .len false (.tmp 12), none, [12], []⟩,
    ⟨some 14, .bin .neq (.tmp 11) (.tmp 13), none, [11, 13], []⟩] [0, 1, 2, 14])
(.cond (.tmp 14)
(.seq (.reg false [⟨some 6, .mv (.const (.bool false)), none, [], []⟩] [6])
.ret)
.skip))
(.seq (.seq (.reg false [⟨some 15, .mv (.tmp 0), none, [0], []⟩,
    ⟨some 16, .len false (.tmp 15), none, [15], []⟩,
    ⟨some 17, .mv (.const (.int .i64 (0))), none, [], []⟩] [1, 2, 15, 16, 17])
(.block 0 (.loop (.seq (.reg false [⟨some 18, .bin .lss (.tmp 17) (.tmp 16), none, [17, 16], []⟩] [1, 2, 15, 16, 17, 18])
(.seq (.cond (.tmp 18)
.skip
(.exit 0))
(.seq (.block 1 (.seq (.reg false [⟨some 19, .mv (.tmp 17), none, [17], []⟩,
    ⟨some 20, .idx 1 (.tmp 15) (.tmp 17), none, [15, 17], []⟩,
    ⟨some 21, .load false 1 (.tmp 20), none, [20], []⟩,
    ⟨some 7, .mv (.tmp 19), none, [19], []⟩,
    ⟨some 8, .mv (.tmp 21), none, [21], []⟩] [1, 2, 7, 8, 15, 16, 17])
(.seq (.reg false [⟨some 22, .mv (.tmp 1), none, [1], []⟩,
    ⟨some 23, .mv (.tmp 7), none, [7], []⟩,
    ⟨some 24, .idx 1 (.tmp 22) (.tmp 23), none, [22, 23], []⟩,
    ⟨some 25, .load false 1 (.tmp 24), none, [24], []⟩,
    ⟨some 9, .mv (.tmp 25), none, [25], []⟩] [1, 2, 8, 9, 15, 16, 17])
(.seq (.reg false [⟨some 26, .mv (.tmp 2), none, [2], []⟩,
    ⟨some 27, .mv (.tmp 8), none, [8], []⟩,
    ⟨some 28, .mv (.tmp 9), none, [9], []⟩,
    ⟨some 29, .callv (.tmp 26) [(.tmp 27), (.tmp 28)], none, [26, 27, 28], []⟩,
    ⟨some 30, .un .not (.tmp 29), none, [29], []⟩] [1, 2, 15, 16, 17, 30])
(.cond (.tmp 30)
(.seq (.reg false [⟨some 6, .mv (.const (.bool false)), none, [], []⟩] [6])
.ret)
.skip)))))
(.reg false [⟨some 31, .bin .add (.tmp 17) (.const (.int .i64 (1))), none, [17], []⟩,
    ⟨some 17, .mv (.tmp 31), none, [31], []⟩] [1, 2, 15, 16, 17])))))))
(.seq (.reg false [⟨some 6, .mv (.const (.bool true)), none, [], []⟩] [6])
.ret))))
theorem ok_109 : FnOk Tryz.prog 109 32 ac_109 [.tmp 6] := ⟨Tryz.f109, Tryz.func109, by kernel_rfl, by kernel_rfl, by kernel_rfl, by kernel_rfl, by kernel_rfl⟩
end Go.Proofs.YtonglhkiobibgaaGreatDoor
namespace Go.Proofs.YtonglhkiobibgaaGreatDoor
set_option maxRecDepth 100000
def ac_148 : AC :=
(.seq (.reg false [⟨some 1, .box 154 (.tmp 0), none, [0], []⟩,
    ⟨some 2, .mv (.const (.int .i64 (0))), none, [], []⟩] [1])
(.seq (.seq (.reg false [⟨some 5, .foff 0 (.tmp 1), none, [1], []⟩,
    ⟨some 6, .load false 1 (.tmp 5), none, [5], []⟩,
    ⟨some 7, .bin .lss (.tmp 6) (.const (.int .i64 (0))), none, [6], []⟩,
    ⟨some 8, .mv (.tmp 7), none, [7], []⟩,
    ⟨some 9, .foff 0 (.tmp 1), some (8, false), [1, 8], []⟩,
    ⟨some 10, .load false 1 (.tmp 9), some (8, false), [9, 8], []⟩,
    ⟨some 11, .bin .gtr (.tmp 10) (.const (.int .i64 (255))), some (8, false), [10, 8], []⟩,
    ⟨some 12, .pick (.tmp 8) (.const (.bool true)) (.tmp 11), none, [8, 11], []⟩] [1, 12])
(.cond (.tmp 12)
(.seq (.reg false [⟨some 2, .mv (.const (.int .i64 (22))), none, [], []⟩] [2])
.ret)
.skip))
(.seq (.seq (.reg false [⟨some 13, .foff 1 (.tmp 1), none, [1], []⟩,
    ⟨some 14, .load false 1 (.tmp 13), none, [13], []⟩,
    ⟨some 15, .len false (.tmp 14), none, [14], []⟩,
    ⟨some 16, .bin .gtr (.tmp 15) (.const (.int .i64 (64))), none, [15], []⟩,
    ⟨some 17, .mv (.tmp 16), none, [16], []⟩,
    ⟨some 18, .foff 2 (.tmp 1), some (17, false), [1, 17], []⟩,
    ⟨some 19, .load false 1 (.tmp 18), some (17, false), [18, 17], []⟩,
    ⟨some 20, .len false (.tmp 19), some (17, false), [19, 17], []⟩,
    ⟨some 21, .bin .gtr (.tmp 20) (.const (.int .i64 (64))), some (17, false), [20, 17], []⟩,
    ⟨some 22, .pick (.tmp 17) (.const (.bool true)) (.tmp 21), none, [17, 21], []⟩] [1, 22])
(.cond (.tmp 22)
(.seq (.reg false [⟨some 2, .mv (.const (.int .i64 (3))), none, [], []⟩] [2])
.ret)
.skip))
(.seq (.seq (.reg false [⟨some 23, .foff 2 (.tmp 1), none, [1], []⟩,
    ⟨some 24, .load false 1 (.tmp 23), none, [23], []⟩,
    ⟨some 25, .len false (.tmp 24), none, [24], []⟩,
    ⟨some 26, .mv (.const (.int .i64 (0))), none, [], []⟩] [24, 25, 26])
(.block 0 (.loop (.seq (.reg false [⟨some 27, .bin .lss (.tmp 26) (.tmp 25), none, [26, 25], []⟩] [24, 25, 26, 27])
(.seq (.cond (.tmp 27)
.skip
(.exit 0))
(.seq (.block 1 (.seq (.reg false [⟨some 28, .idx 1 (.tmp 24) (.tmp 26), none, [24, 26], []⟩,
    ⟨some 29, .load false 1 (.tmp 28), none, [28], []⟩,
    ⟨some 4, .mv (.tmp 29), none, [29], []⟩] [4, 24, 25, 26])
(.seq (.reg false [⟨some 30, .mv (.tmp 4), none, [4], []⟩,
    ⟨some 31, .len false (.tmp 30), none, [30], []⟩,
    ⟨some 32, .bin .gtr (.tmp 31) (.const (.int .i64 (4096))), none, [31], []⟩] [24, 25, 26, 32])
(.cond (.tmp 32)
(.seq (.reg false [⟨some 2, .mv (.const (.int .i64 (5))), none, [], []⟩] [2])
.ret)
.skip))))
(.reg false [⟨some 33, .bin .add (.tmp 26) (.const (.int .i64 (1))), none, [26], []⟩,
    ⟨some 26, .mv (.tmp 33), none, [33], []⟩] [24, 25, 26])))))))
(.seq (.reg false [⟨some 2, .mv (.const (.int .i64 (0))), none, [], []⟩] [2])
.ret)))))
theorem ok_148 : FnOk Tryz.prog 148 34 ac_148 [.tmp 2] := ⟨Tryz.f148, Tryz.func148, by kernel_rfl, by kernel_rfl, by kernel_rfl, by kernel_rfl, by kernel_rfl⟩
def ac_149 : AC :=
(.seq (.reg false [⟨some 4, .mv (.const (.slice none 0 0)), none, [], []⟩] [0, 1])
(.seq (.block 0 (.loop (.seq (.seq (.reg false [⟨some 5, .mv (.tmp 1), none, [1], []⟩,
    ⟨some 6, .bin .gtr (.tmp 5) (.const (.int .u64 (127))), none, [5], []⟩] [0, 1, 6])
(.cond (.tmp 6)
.skip
(.exit 0)))
(.seq (.block 1 (.reg false [⟨some 9, .mv (.tmp 0), none, [0], []⟩,
    ⟨some 10, .mv (.tmp 1), none, [1], []⟩,
    ⟨some 11, .conv .u8 (.tmp 10), none, [10], []⟩,
    ⟨some 12, .bin .or (.tmp 11) (.const (.int .u8 (128))), none, [11], []⟩,
    ⟨some 13, .bslice 5 1 1 [(.int .u8 (0))] [(0, 1, (.tmp 12))], none, [12], []⟩,
    ⟨some 14, .append 5 1 1 (.tmp 9) (.tmp 13), none, [9, 13], []⟩,
    ⟨some 0, .mv (.tmp 14), none, [14], []⟩] [0, 1]))
(.reg false [⟨some 7, .mv (.tmp 1), none, [1], []⟩,
    ⟨some 8, .bin .shr (.tmp 7) (.const (.int .u64 (7))), none, [7], []⟩,
    ⟨some 1, .mv (.tmp 8), none, [8], []⟩] [0, 1])))))
(.seq (.reg false [⟨some 15, .mv (.tmp 0), none, [0], []⟩,
    ⟨some 16, .mv (.tmp 1), none, [1], []⟩,
    ⟨some 17, .conv .u8 (.tmp 16), none, [16], []⟩,
    ⟨some 18, .bslice 5 1 1 [(.int .u8 (0))] [(0, 1, (.tmp 17))], none, [17], []⟩,
    ⟨some 19, .append 5 1 1 (.tmp 15) (.tmp 18), none, [15, 18], []⟩,
    ⟨some 4, .mv (.tmp 19), none, [19], []⟩] [4])
.ret)))
theorem ok_149 : FnOk Tryz.prog 149 20 ac_149 [.tmp 4] := ⟨Tryz.f149, Tryz.func149, by kernel_rfl, by kernel_rfl, by kernel_rfl, by kernel_rfl, by kernel_rfl⟩
def ac_150 : AC :=
(.seq (.reg false [⟨some 2, .mv (.const (.slice none 0 0)), none, [], []⟩] [0])
(.seq (.reg false [⟨some 3, .mv (.tmp 0), none, [0], []⟩,
    ⟨some 4, .mv (.tmp 0), none, [0], []⟩,
    ⟨some 5, .call 208 [(.tmp 4)], none, [4], []⟩,
    ⟨some 6, .call 207 [(.tmp 5)], none, [5], []⟩,
    ⟨some 7, .bslice 37 1 2 [(.slice none 0 0), (.slice none 0 0)] [(0, 1, (.tmp 3)), (1, 1, (.tmp 6))], none, [3, 6], []⟩,
    ⟨some 8, .call 206 [(.tmp 7)], none, [7], []⟩,
    ⟨some 2, .mv (.tmp 8), none, [8], []⟩] [2])
.ret))
theorem ok_150 : FnOk Tryz.prog 150 9 ac_150 [.tmp 2] := ⟨Tryz.f150, Tryz.func150, by kernel_rfl, by kernel_rfl, by kernel_rfl, by kernel_rfl, by kernel_rfl⟩
end Go.Proofs.YtonglhkiobibgaaGreatDoor
namespace Go.Proofs.YtonglhkiobibgaaGreatDoor
set_option maxRecDepth 100000
def ac_164 : AC :=
(.seq (.reg false [⟨some 4, .mv (.const (.int .i64 (0))), none, [], []⟩] [0, 1])
(.seq (.seq (.reg false [⟨some 6, .mv (.tmp 0), none, [0], []⟩,
    ⟨some 7, .len false (.tmp 6), none, [6], []⟩,
    ⟨some 8, .mv (.const (.int .i64 (0))), none, [], []⟩] [0, 1, 7, 8])
(.block 0 (.loop (.seq (.reg false [⟨some 9, .bin .lss (.tmp 8) (.tmp 7), none, [8, 7], []⟩] [0, 1, 7, 8, 9])
(.seq (.cond (.tmp 9)
.skip
(.exit 0))
(.seq (.block 1 (.seq (.reg false [⟨some 10, .mv (.tmp 8), none, [8], []⟩,
    ⟨some 5, .mv (.tmp 10), none, [10], []⟩] [0, 1, 5, 7, 8])
(.seq (.reg false [⟨some 11, .mv (.tmp 1), none, [1], []⟩,
    ⟨some 12, .mv (.tmp 0), none, [0], []⟩,
    ⟨some 13, .mv (.tmp 5), none, [5], []⟩,
    ⟨some 14, .idx 1 (.tmp 12) (.tmp 13), none, [12, 13], []⟩,
    ⟨some 15, .load false 1 (.tmp 14), none, [14], []⟩,
    ⟨some 16, .callv (.tmp 11) [(.tmp 15)], none, [11, 15], []⟩] [0, 1, 5, 7, 8, 16])
(.cond (.tmp 16)
(.seq (.reg false [⟨some 17, .mv (.tmp 5), none, [5], []⟩,
    ⟨some 4, .mv (.tmp 17), none, [17], []⟩] [4])
.ret)
.skip))))
(.reg false [⟨some 18, .bin .add (.tmp 8) (.const (.int .i64 (1))), none, [8], []⟩,
    ⟨some 8, .mv (.tmp 18), none, [18], []⟩] [0, 1, 7, 8])))))))
(.seq (.reg false [⟨some 4, .mv (.const (.int .i64 (-1))), none, [], []⟩] [4])
.ret)))
theorem ok_164 : FnOk Tryz.prog 164 19 ac_164 [.tmp 4] := ⟨Tryz.f164, Tryz.func164, by kernel_rfl, by kernel_rfl, by kernel_rfl, by kernel_rfl, by kernel_rfl⟩
def ac_166 : AC :=
(.seq (.reg false [⟨some 2, .mv (.const (.slice none 0 0)), none, [], []⟩] [0])
(.seq (.reg false [⟨some 10, .call 37 [], none, [], []⟩,
    ⟨some 11, .build [(.slice none 0 0), (.int .i64 (0)), (.slice none 0 0)] [(0, 2, (.tmp 10))], none, [10], []⟩,
    ⟨some 12, .box 329 (.tmp 11), none, [11], []⟩,
    ⟨some 3, .mv (.tmp 12), none, [12], []⟩] [0, 3])
(.seq (.reg false [⟨some 4, .mv (.const (.slice none 0 0)), none, [], []⟩] [0, 3, 4])
(.seq (.seq (.reg false [⟨some 13, .mv (.tmp 0), none, [0], []⟩,
    ⟨some 14, .len false (.tmp 13), none, [13], []⟩,
    ⟨some 15, .mv (.const (.int .i64 (0))), none, [], []⟩] [3, 4, 13, 14, 15])
(.block 0 (.loop (.seq (.reg false [⟨some 16, .bin .lss (.tmp 15) (.tmp 14), none, [15, 14], []⟩] [3, 4, 13, 14, 15, 16])
(.seq (.cond (.tmp 16)
.skip
(.exit 0))
(.seq (.block 1 (.seq (.reg false [⟨some 17, .idx 1 (.tmp 13) (.tmp 15), none, [13, 15], []⟩,
    ⟨some 18, .load false 1 (.tmp 17), none, [17], []⟩,
    ⟨some 6, .mv (.tmp 18), none, [18], []⟩] [3, 4, 6, 13, 14, 15])
(.seq (.reg false [⟨some 19, .mv (.tmp 3), none, [3], []⟩,
    ⟨some 20, .nilc (.tmp 19), none, [19], []⟩,
    ⟨some 21, .foff 2 (.tmp 20), none, [20], []⟩,
    ⟨some 22, .load false 1 (.tmp 21), none, [21], []⟩,
    ⟨some 7, .mv (.tmp 22), none, [22], []⟩] [3, 4, 6, 7, 13, 14, 15])
(.seq (.reg false [⟨some 24, .mv (.tmp 3), none, [3], []⟩,
    ⟨some 25, .mv (.tmp 6), none, [6], []⟩,
    ⟨some 26, .call 215 [(.tmp 24), (.tmp 25)], none, [24, 25], []⟩,
    ⟨some 23, .mv (.tmp 26), none, [26], []⟩,
    ⟨some 27, .ext 0 (.tmp 23), none, [23], []⟩,
    ⟨some 28, .ext 1 (.tmp 23), none, [23], []⟩,
    ⟨some 8, .new 254 [(.int .i64 (0)), (.int .i64 (0)), (.slice none 0 0)], none, [], []⟩,
    ⟨none, .store 3 (.tmp 8) (.tmp 27), none, [8, 27], []⟩,
    ⟨some 9, .mv (.tmp 28), none, [28], []⟩] [3, 4, 7, 8, 9, 13, 14, 15])
(.seq (.reg false [⟨some 29, .mv (.tmp 9), none, [9], []⟩,
    ⟨some 30, .mv (.tmp 29), none, [29], []⟩,
    ⟨some 31, .mv (.tmp 7), some (30, true), [7, 30], []⟩,
    ⟨some 32, .load true 3 (.tmp 8), some (30, true), [8, 30], []⟩,
    ⟨some 33, .call 216 [(.tmp 31), (.tmp 32)], some (30, true), [31, 32, 30], []⟩,
    ⟨some 34, .pick (.tmp 30) (.tmp 33) (.const (.bool false)), none, [30, 33], []⟩] [3, 4, 8, 13, 14, 15, 34])
(.cond (.tmp 34)
(.reg false [⟨some 35, .mv (.tmp 4), none, [4], []⟩,
    ⟨some 36, .load true 3 (.tmp 8), none, [8], []⟩,
    ⟨some 37, .bslice 254 3 1 [(.int .i64 (0)), (.int .i64 (0)), (.slice none 0 0)] [(0, 3, (.tmp 36))], none, [36], []⟩,
    ⟨some 38, .append 254 3 40 (.tmp 35) (.tmp 37), none, [35, 37], []⟩,
    ⟨some 4, .mv (.tmp 38), none, [38], []⟩] [3, 4, 13, 14, 15])
.skip))))))
(.reg false [⟨some 39, .bin .add (.tmp 15) (.const (.int .i64 (1))), none, [15], []⟩,
    ⟨some 15, .mv (.tmp 39), none, [39], []⟩] [3, 4, 13, 14, 15])))))))
(.seq (.reg false [⟨some 40, .mv (.tmp 4), none, [4], []⟩,
    ⟨some 2, .mv (.tmp 40), none, [40], []⟩] [2])
.ret)))))
theorem ok_166 : FnOk Tryz.prog 166 41 ac_166 [.tmp 2] := ⟨Tryz.f166, Tryz.func166, by kernel_rfl, by kernel_rfl, by kernel_rfl, by kernel_rfl, by kernel_rfl⟩
def ac_167 : AC :=
(.seq (.reg false [⟨some 4, .mv (.const (.int .i64 (0))), none, [], []⟩] [0, 1])
(.seq (.seq (.reg false [⟨some 6, .mv (.tmp 0), none, [0], []⟩,
    ⟨some 7, .len false (.tmp 6), none, [6], []⟩,
    ⟨some 8, .mv (.const (.int .i64 (0))), none, [], []⟩] [0, 1, 7, 8])
(.block 0 (.loop (.seq (.reg false [⟨some 9, .bin .lss (.tmp 8) (.tmp 7), none, [8, 7], []⟩] [0, 1, 7, 8, 9])
(.seq (.cond (.tmp 9)
.skip
(.exit 0))
(.seq (.block 1 (.seq (.reg false [⟨some 10, .mv (.tmp 8), none, [8], []⟩,
    ⟨some 5, .mv (.tmp 10), none, [10], []⟩] [0, 1, 5, 7, 8])
(.seq (.reg false [⟨some 11, .mv (.tmp 1), none, [1], []⟩,
    ⟨some 12, .mv (.tmp 0), none, [0], []⟩,
    ⟨some 13, .mv (.tmp 5), none, [5], []⟩,
    ⟨some 14, .idx 1 (.tmp 12) (.tmp 13), none, [12, 13], []⟩,
    ⟨some 15, .load false 1 (.tmp 14), none, [14], []⟩,
    ⟨some 16, .callv (.tmp 11) [(.tmp 15)], none, [11, 15], []⟩] [0, 1, 5, 7, 8, 16])
(.cond (.tmp 16)
(.seq (.reg false [⟨some 17, .mv (.tmp 5), none, [5], []⟩,
    ⟨some 4, .mv (.tmp 17), none, [17], []⟩] [4])
.ret)
.skip))))
(.reg false [⟨some 18, .bin .add (.tmp 8) (.const (.int .i64 (1))), none, [8], []⟩,
    ⟨some 8, .mv (.tmp 18), none, [18], []⟩] [0, 1, 7, 8])))))))
(.seq (.reg false [⟨some 4, .mv (.const (.int .i64 (-1))), none, [], []⟩] [4])
.ret)))
theorem ok_167 : FnOk Tryz.prog 167 19 ac_167 [.tmp 4] := ⟨Tryz.f167, Tryz.func167, by kernel_rfl, by kernel_rfl, by kernel_rfl, by kernel_rfl, by kernel_rfl⟩
end Go.Proofs.YtonglhkiobibgaaGreatDoor
namespace Go.Proofs.YtonglhkiobibgaaGreatDoor
set_option maxRecDepth 100000
def ac_206 : AC :=
(.seq (.reg false [⟨some 2, .mv (.const (.slice none 0 0)), none, [], []⟩] [0])
(.seq (.reg false [⟨some 3, .mv (.const (.int .i64 (0))), none, [], []⟩] [0, 3])
(.seq (.seq (.reg false [⟨some 9, .mv (.tmp 0), none, [0], []⟩,
    ⟨some 10, .len false (.tmp 9), none, [9], []⟩,
    ⟨some 11, .mv (.const (.int .i64 (0))), none, [], []⟩] [0, 3, 9, 10, 11])
(.block 0 (.loop (.seq (.reg false [⟨some 12, .bin .lss (.tmp 11) (.tmp 10), none, [11, 10], []⟩] [0, 3, 9, 10, 11, 12])
(.seq (.cond (.tmp 12)
.skip
(.exit 0))
(.seq (.block 1 (.seq (.reg false [⟨some 13, .idx 1 (.tmp 9) (.tmp 11), none, [9, 11], []⟩,
    ⟨some 14, .load false 1 (.tmp 13), none, [13], []⟩,
    ⟨some 5, .mv (.tmp 14), none, [14], []⟩] [0, 3, 5, 9, 10, 11])
(.seq (.reg false [⟨some 15, .mv (.tmp 3), none, [3], []⟩,
    ⟨some 16, .mv (.tmp 5), none, [5], []⟩,
    ⟨some 17, .len false (.tmp 16), none, [16], []⟩,
    ⟨some 18, .bin .add (.tmp 15) (.tmp 17), none, [15, 17], []⟩,
    ⟨some 3, .mv (.tmp 18), none, [18], []⟩] [0, 3, 9, 10, 11])
(.seq (.reg false [⟨some 19, .mv (.tmp 3), none, [3], []⟩,
    ⟨some 20, .bin .lss (.tmp 19) (.const (.int .i64 (0))), none, [19], []⟩] [0, 3, 9, 10, 11, 20])
(.cond (.tmp 20)
(.reg false [⟨some 21, .mkif 9 (.const (.string (ByteArray.mk #[108, 101, 110, 32, 111, 117, 116, 32, 111, 102, 32, 114, 97, 110, 103, 101]))), none, [], []⟩,
    ⟨none, .die , none, [21], []⟩] [0, 3, 9, 10, 11])
.skip)))))
(.reg false [⟨some 22, .bin .add (.tmp 11) (.const (.int .i64 (1))), none, [11], []⟩,
    ⟨some 11, .mv (.tmp 22), none, [22], []⟩] [0, 3, 9, 10, 11])))))))
(.seq (.reg false [⟨some 23, .mv (.tmp 3), none, [3], []⟩,
    ⟨some 24, .call 237 [(.const (.slice none 0 0)), (.tmp 23)], none, [23], []⟩,
    ⟨some 6, .mv (.tmp 24), none, [24], []⟩] [0, 6])
(.seq (.seq (.reg false [⟨some 25, .mv (.tmp 0), none, [0], []⟩,
    ⟨some 26, .len false (.tmp 25), none, [25], []⟩,
    ⟨some 27, .mv (.const (.int .i64 (0))), none, [], []⟩] [6, 25, 26, 27])
(.block 2 (.loop (.seq (.reg false [⟨some 28, .bin .lss (.tmp 27) (.tmp 26), none, [27, 26], []⟩] [6, 25, 26, 27, 28])
(.seq (.cond (.tmp 28)
.skip
(.exit 2))
(.seq (.block 3 (.seq (.reg false [⟨some 29, .idx 1 (.tmp 25) (.tmp 27), none, [25, 27], []⟩,
    ⟨some 30, .load false 1 (.tmp 29), none, [29], []⟩,
    ⟨some 8, .mv (.tmp 30), none, [30], []⟩] [6, 8, 25, 26, 27])
(.reg false [⟨some 31, .mv (.tmp 6), none, [6], []⟩,
    ⟨some 32, .mv (.tmp 8), none, [8], []⟩,
    ⟨some 33, .append 5 1 1 (.tmp 31) (.tmp 32), none, [31, 32], []⟩,
    ⟨some 6, .mv (.tmp 33), none, [33], []⟩] [6, 25, 26, 27])))
(.reg false [⟨some 34, .bin .add (.tmp 27) (.const (.int .i64 (1))), none, [27], []⟩,
    ⟨some 27, .mv (.tmp 34), none, [34], []⟩] [6, 25, 26, 27])))))))
(.seq (.reg false [⟨some 35, .mv (.tmp 6), none, [6], []⟩,
    ⟨some 2, .mv (.tmp 35), none, [35], []⟩] [2])
.ret))))))
theorem ok_206 : FnOk Tryz.prog 206 36 ac_206 [.tmp 2] := ⟨Tryz.f206, Tryz.func206, by kernel_rfl, by kernel_rfl, by kernel_rfl, by kernel_rfl, by kernel_rfl⟩
def ac_207 : AC :=
(.seq (.reg false [⟨some 2, .mv (.const (.slice none 0 0)), none, [], []⟩] [0])
(.seq (.reg false [⟨some 5, .mksl 5 1 1 [(.int .u8 (0))] (.const (.int .i64 (4))) (.const (.int .i64 (4))), none, [], []⟩,
    ⟨some 3, .mv (.tmp 5), none, [5], []⟩] [0, 3])
(.seq (.seq (.reg false [⟨some 6, .mv (.tmp 3), none, [3], []⟩,
    ⟨some 7, .len false (.tmp 6), none, [6], []⟩,
    ⟨some 8, .mv (.const (.int .i64 (0))), none, [], []⟩] [0, 3, 7, 8])
(.block 0 (.loop (.seq (.reg false [⟨some 9, .bin .lss (.tmp 8) (.tmp 7), none, [8, 7], []⟩] [0, 3, 7, 8, 9])
(.seq (.cond (.tmp 9)
.skip
(.exit 0))
(.seq (.block 1 (.seq (.reg false [⟨some 10, .mv (.tmp 8), none, [8], []⟩,
    ⟨some 4, .mv (.tmp 10), none, [10], []⟩] [0, 3, 4, 7, 8])
(.reg false [⟨some 11, .mv (.tmp 3), none, [3], []⟩,
    ⟨some 12, .mv (.tmp 4), none, [4], []⟩,
    ⟨some 13, .mv (.tmp 0), none, [0], []⟩,
    ⟨some 14, .mv (.tmp 4), none, [4], []⟩,
    ⟨some 15, .bin .mul (.const (.int .i64 (8))) (.tmp 14), none, [14], []⟩,
    ⟨some 16, .bin .shr (.tmp 13) (.tmp 15), none, [13, 15], []⟩,
    ⟨some 17, .conv .u8 (.tmp 16), none, [16], []⟩,
    ⟨some 18, .idx 1 (.tmp 11) (.tmp 12), none, [11, 12], []⟩,
    ⟨none, .store 1 (.tmp 18) (.tmp 17), none, [18, 17], []⟩] [0, 3, 7, 8])))
(.reg false [⟨some 19, .bin .add (.tmp 8) (.const (.int .i64 (1))), none, [8], []⟩,
    ⟨some 8, .mv (.tmp 19), none, [19], []⟩] [0, 3, 7, 8])))))))
(.seq (.reg false [⟨some 20, .mv (.tmp 3), none, [3], []⟩,
    ⟨some 2, .mv (.tmp 20), none, [20], []⟩] [2])
.ret))))
theorem ok_207 : FnOk Tryz.prog 207 21 ac_207 [.tmp 2] := ⟨Tryz.f207, Tryz.func207, by kernel_rfl, by kernel_rfl, by kernel_rfl, by kernel_rfl, by kernel_rfl⟩
def ac_208 : AC :=
(.seq (.reg false [⟨some 2, .mv (.const (.int .u32 (0))), none, [], []⟩] [0])
(.seq (.reg false [⟨some 3, .mv (.tmp 0), none, [0], []⟩,
    ⟨some 4, .call 238 [(.const (.int .u32 (0))), (.tmp 3)], none, [3], []⟩,
    ⟨some 2, .mv (.tmp 4), none, [4], []⟩] [2])
.ret))
theorem ok_208 : FnOk Tryz.prog 208 5 ac_208 [.tmp 2] := ⟨Tryz.f208, Tryz.func208, by kernel_rfl, by kernel_rfl, by kernel_rfl, by kernel_rfl, by kernel_rfl⟩
end Go.Proofs.YtonglhkiobibgaaGreatDoor
namespace Go.Proofs.YtonglhkiobibgaaGreatDoor
set_option maxRecDepth 100000
def ac_237 : AC :=
(.seq (.reg false [⟨some 4, .mv (.const (.slice none 0 0)), none, [], []⟩] [0, 1])
(.seq (.seq (.reg false [⟨some 5, .mv (.tmp 1), none, [1], []⟩,
    ⟨some 6, .bin .lss (.tmp 5) (.const (.int .i64 (0))), none, [5], []⟩] [0, 1, 6])
(.cond (.tmp 6)
(.reg false [⟨some 7, .mkif 9 (.const (.string (ByteArray.mk #[99, 97, 110, 110, 111, 116, 32, 98, 101, 32, 110, 101, 103, 97, 116, 105, 118, 101]))), none, [], []⟩,
    ⟨none, .die , none, [7], []⟩] [0, 1])
.skip))
(.seq (.seq (.reg false [⟨some 8, .mv (.tmp 1), none, [1], []⟩,
    ⟨some 9, .mv (.tmp 0), none, [0], []⟩,
    ⟨some 10, .cap (.tmp 9), none, [9], []⟩,
    ⟨some 11, .mv (.tmp 0), none, [0], []⟩,
    ⟨some 12, .len false (.tmp 11), none, [11], []⟩,
    ⟨some 13, .bin .sub (.tmp 10) (.tmp 12), none, [10, 12], []⟩,
    ⟨some 14, .bin .sub (.tmp 8) (.tmp 13), none, [8, 13], []⟩,
    ⟨some 1, .mv (.tmp 14), none, [14], []⟩] [0, 1])
(.seq (.reg false [⟨some 15, .mv (.tmp 1), none, [1], []⟩,
    ⟨some 16, .bin .gtr (.tmp 15) (.const (.int .i64 (0))), none, [15], []⟩] [0, 1, 16])
(.cond (.tmp 16)
(.reg false [⟨some 17, .mv (.tmp 0), none, [0], []⟩,
    ⟨some 18, .mv (.tmp 0), none, [0], []⟩,
    ⟨some 19, .cap (.tmp 18), none, [18], []⟩,
    ⟨some 20, .slice 1 (.tmp 17) none (some (.tmp 19)), none, [17, 19], []⟩,
    ⟨some 21, .mv (.tmp 1), none, [1], []⟩,
    ⟨some 22, .appz 5 1 1 [(.int .u8 (0))] (.tmp 20) (.tmp 21), none, [20, 21], []⟩,
    ⟨some 23, .mv (.tmp 0), none, [0], []⟩,
    ⟨some 24, .len false (.tmp 23), none, [23], []⟩,
    ⟨some 25, .slice 1 (.tmp 22) none (some (.tmp 24)), none, [22, 24], []⟩,
    ⟨some 0, .mv (.tmp 25), none, [25], []⟩] [0])
.skip)))
(.seq (.reg false [⟨some 26, .mv (.tmp 0), none, [0], []⟩,
    ⟨some 4, .mv (.tmp 26), none, [26], []⟩] [4])
.ret))))
theorem ok_237 : FnOk Tryz.prog 237 27 ac_237 [.tmp 4] := ⟨Tryz.f237, Tryz.func237, by kernel_rfl, by kernel_rfl, by kernel_rfl, by kernel_rfl, by kernel_rfl⟩
def ac_238 : AC :=
(.seq (.reg false [⟨some 4, .mv (.const (.int .u32 (0))), none, [], []⟩] [0, 1])
(.seq (.reg false [⟨some 8, .call 275 [], none, [], []⟩,
    ⟨some 5, .new 399 [(.int .u32 (0)), (.int .u32 (0)), (.int .u32 (0)), (.int .u32 (0)), (.int .u32 (0)), (.int .u32 (0)), (.int .u32 (0)), (.int .u32 (0)), (.int .u32 (0)), (.int .u32 (0)), (.int .u32 (0)), (.int .u32 (0)), (.int .u32 (0)), (.int .u32 (0)), (.int .u32 (0)), (.int .u32 (0))], none, [], []⟩,
    ⟨none, .store 16 (.tmp 5) (.tmp 8), none, [5, 8], []⟩] [0, 1, 5])
(.seq (.reg false [⟨some 9, .mv (.tmp 0), none, [0], []⟩,
    ⟨some 10, .un .xor (.tmp 9), none, [9], []⟩,
    ⟨some 0, .mv (.tmp 10), none, [10], []⟩] [0, 1, 5])
(.seq (.seq (.reg false [⟨some 11, .mv (.tmp 1), none, [1], []⟩,
    ⟨some 12, .len false (.tmp 11), none, [11], []⟩,
    ⟨some 13, .mv (.const (.int .i64 (0))), none, [], []⟩] [0, 5, 11, 12, 13])
(.block 0 (.loop (.seq (.reg false [⟨some 14, .bin .lss (.tmp 13) (.tmp 12), none, [13, 12], []⟩] [0, 5, 11, 12, 13, 14])
(.seq (.cond (.tmp 14)
.skip
(.exit 0))
(.seq (.block 1 (.seq (.reg false [⟨some 15, .idx 1 (.tmp 11) (.tmp 13), none, [11, 13], []⟩,
    ⟨some 16, .load false 1 (.tmp 15), none, [15], []⟩,
    ⟨some 7, .mv (.tmp 16), none, [16], []⟩] [0, 5, 7, 11, 12, 13])
(.seq (.reg false [⟨some 17, .mv (.tmp 0), none, [0], []⟩,
    ⟨some 18, .mv (.tmp 7), none, [7], []⟩,
    ⟨some 19, .conv .u32 (.tmp 18), none, [18], []⟩,
    ⟨some 20, .bin .xor (.tmp 17) (.tmp 19), none, [17, 19], []⟩,
    ⟨some 0, .mv (.tmp 20), none, [20], []⟩] [0, 5, 11, 12, 13])
(.seq (.reg false [⟨some 21, .mv (.tmp 0), none, [0], []⟩,
    ⟨some 22, .bin .shr (.tmp 21) (.const (.int .u64 (4))), none, [21], []⟩,
    ⟨some 23, .mv (.tmp 0), none, [0], []⟩,
    ⟨some 24, .bin .and (.tmp 23) (.const (.int .u32 (15))), none, [23], []⟩,
    ⟨some 25, .aidx 1 16 (.tmp 5) (.tmp 24), none, [5, 24], []⟩,
    ⟨some 26, .load false 1 (.tmp 25), none, [25], []⟩,
    ⟨some 27, .bin .xor (.tmp 22) (.tmp 26), none, [22, 26], []⟩,
    ⟨some 0, .mv (.tmp 27), none, [27], []⟩] [0, 5, 11, 12, 13])
(.reg false [⟨some 28, .mv (.tmp 0), none, [0], []⟩,
    ⟨some 29, .bin .shr (.tmp 28) (.const (.int .u64 (4))), none, [28], []⟩,
    ⟨some 30, .mv (.tmp 0), none, [0], []⟩,
    ⟨some 31, .bin .and (.tmp 30) (.const (.int .u32 (15))), none, [30], []⟩,
    ⟨some 32, .aidx 1 16 (.tmp 5) (.tmp 31), none, [5, 31], []⟩,
    ⟨some 33, .load false 1 (.tmp 32), none, [32], []⟩,
    ⟨some 34, .bin .xor (.tmp 29) (.tmp 33), none, [29, 33], []⟩,
    ⟨some 0, .mv (.tmp 34), none, [34], []⟩] [0, 5, 11, 12, 13])))))
(.reg false [⟨some 35, .bin .add (.tmp 13) (.const (.int .i64 (1))), none, [13], []⟩,
    ⟨some 13, .mv (.tmp 35), none, [35], []⟩] [0, 5, 11, 12, 13])))))))
(.seq (.reg false [⟨some 36, .mv (.tmp 0), none, [0], []⟩,
    ⟨some 37, .un .xor (.tmp 36), none, [36], []⟩,
    ⟨some 4, .mv (.tmp 37), none, [37], []⟩] [4])
.ret)))))
theorem ok_238 : FnOk Tryz.prog 238 38 ac_238 [.tmp 4] := ⟨Tryz.f238, Tryz.func238, by kernel_rfl, by kernel_rfl, by kernel_rfl, by kernel_rfl, by kernel_rfl⟩
end Go.Proofs.YtonglhkiobibgaaGreatDoor
namespace Go.Proofs.YtonglhkiobibgaaGreatDoor
set_option maxRecDepth 100000
def ac_275 : AC :=
(.seq (.reg false [⟨some 0, .new 399 [(.int .u32 (0)), (.int .u32 (0)), (.int .u32 (0)), (.int .u32 (0)), (.int .u32 (0)), (.int .u32 (0)), (.int .u32 (0)), (.int .u32 (0)), (.int .u32 (0)), (.int .u32 (0)), (.int .u32 (0)), (.int .u32 (0)), (.int .u32 (0)), (.int .u32 (0)), (.int .u32 (0)), (.int .u32 (0))], none, [], []⟩] [0])
(.seq (.reg false [⟨some 1, .new 399 [(.int .u32 (0)), (.int .u32 (0)), (.int .u32 (0)), (.int .u32 (0)), (.int .u32 (0)), (.int .u32 (0)), (.int .u32 (0)), (.int .u32 (0)), (.int .u32 (0)), (.int .u32 (0)), (.int .u32 (0)), (.int .u32 (0)), (.int .u32 (0)), (.int .u32 (0)), (.int .u32 (0)), (.int .u32 (0))], none, [], []⟩] [0, 1])
(.seq (.seq (.reg false [⟨some 4, .mv (.const (.int .i64 (0))), none, [], []⟩] [0, 1, 4])
(.block 0 (.loop (.seq (.reg false [⟨some 5, .bin .lss (.tmp 4) (.const (.int .i64 (16))), none, [4], []⟩] [0, 1, 4, 5])
(.seq (.cond (.tmp 5)
.skip
(.exit 0))
(.seq (.block 1 (.seq (.reg false [⟨some 6, .mv (.tmp 4), none, [4], []⟩,
    ⟨some 2, .mv (.tmp 6), none, [6], []⟩] [0, 1, 2, 4])
(.seq (.reg false [⟨some 7, .mv (.tmp 2), none, [2], []⟩,
    ⟨some 8, .conv .u32 (.tmp 7), none, [7], []⟩,
    ⟨some 3, .mv (.tmp 8), none, [8], []⟩] [0, 1, 2, 3, 4])
(.seq (.seq (.reg false [⟨some 9, .mv (.const (.int .i64 (0))), none, [], []⟩] [0, 1, 2, 3, 4, 9])
(.block 2 (.loop (.seq (.reg false [⟨some 10, .bin .lss (.tmp 9) (.const (.int .i64 (4))), none, [9], []⟩] [0, 1, 2, 3, 4, 9, 10])
(.seq (.cond (.tmp 10)
.skip
(.exit 2))
(.seq (.block 3 (.reg false [⟨some 11, .mv (.tmp 3), none, [3], []⟩,
    ⟨some 12, .bin .shr (.tmp 11) (.const (.int .u64 (1))), none, [11], []⟩,
    ⟨some 13, .mv (.tmp 3), none, [3], []⟩,
    ⟨some 14, .bin .and (.tmp 13) (.const (.int .u32 (1))), none, [13], []⟩,
    ⟨some 15, .un .neg (.tmp 14), none, [14], []⟩,
    ⟨some 16, .bin .and (.const (.int .u32 (3988292384))) (.tmp 15), none, [15], []⟩,
    ⟨some 17, .bin .xor (.tmp 12) (.tmp 16), none, [12, 16], []⟩,
    ⟨some 3, .mv (.tmp 17), none, [17], []⟩] [0, 1, 2, 3, 4, 9]))
(.reg false [⟨some 18, .bin .add (.tmp 9) (.const (.int .i64 (1))), none, [9], []⟩,
    ⟨some 9, .mv (.tmp 18), none, [18], []⟩] [0, 1, 2, 3, 4, 9])))))))
(.reg false [⟨some 19, .mv (.tmp 2), none, [2], []⟩,
    ⟨some 20, .mv (.tmp 3), none, [3], []⟩,
    ⟨some 21, .aidx 1 16 (.tmp 1) (.tmp 19), none, [1, 19], []⟩,
    ⟨none, .store 1 (.tmp 21) (.tmp 20), none, [21, 20], []⟩] [0, 1, 4])))))
(.reg false [⟨some 22, .bin .add (.tmp 4) (.const (.int .i64 (1))), none, [4], []⟩,
    ⟨some 4, .mv (.tmp 22), none, [22], []⟩] [0, 1, 4])))))))
(.seq (.reg false [⟨some 23, .load true 16 (.tmp 1), none, [1], []⟩,
    ⟨none, .store 16 (.tmp 0) (.tmp 23), none, [0, 23], []⟩] [0])
.ret))))
theorem ok_275 : FnOk Tryz.prog 275 24 ac_275 [.cell 0 true 16] := ⟨Tryz.f275, Tryz.func275, by kernel_rfl, by kernel_rfl, by kernel_rfl, by kernel_rfl, by kernel_rfl⟩
end Go.Proofs.YtonglhkiobibgaaGreatDoor
namespace Go.Proofs.YtonglhkiobibgaaGreatDoor
open Go.RowKit
set_option maxRecDepth 100000
def nibC (k : Nat) : List AV := (List.range 16).map fun j => if j < k then tabV j else .v (.int .u32 0)
theorem nib_set {k : Nat} (h : k < 16) : (nibC k).set k (tabV k) = nibC (k + 1) := by
  apply List.ext_getElem?
  intro j
  rw [List.getElem?_set]
  simp only [nibC, List.length_map, List.length_range, List.getElem?_map]
  by_cases hj : j < 16
  · rw [List.getElem?_range hj]
    by_cases e : k = j
    · subst e; simp [h]
    · rw [if_neg e]
      simp only [Option.map_some]
      congr 2
      simp only [eq_iff_iff]
      omega
  · have h2 : (List.range 16)[j]? = none := by rw [List.getElem?_eq_none_iff]; simp; omega
    rw [h2, if_neg (by omega)]; rfl
theorem nib_len (k : Nat) : (nibC k).length = 16 := by simp [nibC]
theorem nib_16 : nibC 16 = tabA := rfl
theorem al_nib {p : Nat → Prop} (k : Nat) : AlL p (nibC k) := AlL_map (e := fun j => if j < k then tabV j else .v (.int .u32 0)) (fun j => by split <;> trivial) _
theorem ren_nib {ρ : Nat → Nat} (k : Nat) : renL ρ (nibC k) = nibC k := renL_id (p := fun _ => False) (fun _ h => h.elim) (al_nib k)
theorem tab16 : tabA[0]? = some (tabV 0) ∧ tabA[1]? = some (tabV 1) ∧ tabA[2]? = some (tabV 2) ∧ tabA[3]? = some (tabV 3) ∧ tabA[4]? = some (tabV 4) ∧ tabA[5]? = some (tabV 5) ∧ tabA[6]? = some (tabV 6) ∧ tabA[7]? = some (tabV 7) ∧ tabA[8]? = some (tabV 8) ∧ tabA[9]? = some (tabV 9) ∧ tabA[10]? = some (tabV 10) ∧ tabA[11]? = some (tabV 11) ∧ tabA[12]? = some (tabV 12) ∧ tabA[13]? = some (tabV 13) ∧ tabA[14]? = some (tabV 14) ∧ tabA[15]? = some (tabV 15) := ⟨rfl, rfl, rfl, rfl, rfl, rfl, rfl, rfl, rfl, rfl, rfl, rfl, rfl, rfl, rfl, rfl⟩
def cbn : Nat → BitVec 32 → BitVec 32
  | 0, c => c
  | n + 1, c => cbit (cbn n c)
theorem lit_poly : BitVec.ofInt 32 3988292384 = 3988292384#32 := rfl
theorem lit_one : BitVec.ofInt 32 1 = 1#32 := rfl
theorem lit_15 : BitVec.ofInt 32 15 = 15#32 := rfl
abbrev z16 : List AV := [.v (.int .u32 0), .v (.int .u32 0), .v (.int .u32 0), .v (.int .u32 0), .v (.int .u32 0), .v (.int .u32 0), .v (.int .u32 0), .v (.int .u32 0), .v (.int .u32 0), .v (.int .u32 0), .v (.int .u32 0), .v (.int .u32 0), .v (.int .u32 0), .v (.int .u32 0), .v (.int .u32 0), .v (.int .u32 0)]
abbrev L_nib (k : Nat) : ASt := ⟨envOf [(0, .op 0 0), (1, .op 1 0), (4, .v (.int .i64 k))], heapOf [(0, .row true 399 z16), (1, .row true 399 (nibC k))], 2⟩
abbrev L_nib2 (k j : Nat) : ASt := ⟨envOf [(0, .op 0 0), (1, .op 1 0), (2, .v (.int .i64 k)), (3, .v (.int .u32 ((cbn j (BitVec.ofNat 32 k)).toNat))), (4, .v (.int .i64 k)), (9, .v (.int .i64 j))], heapOf [(0, .row true 399 z16), (1, .row true 399 (nibC k))], 2⟩
set_option maxHeartbeats 1000000 in
theorem nibbles_spec (nb : Nat) : ASound Tryz.prog 275 [] nb (.ret (.agg tabA) []) := by
  refine ok_275.sound (by simp) trivial ?_
  simp only [ac_275, TT, ↓reduceIte, Nat.reduceEqDiff, Nat.reduceAdd, Nat.reduceMul, reduceCtorEq, Nat.reduceLeDiff]
  refine AWc.family L_nib (fun k => k ≤ 16) (fun k => 16 - k) 0 (by omega) ?_ ?_
  · refine Weak.calc [(0, 0), (100000, 1)] (by decide) ?_ ?_
    · simp [WT]
    · simp [WT]; rfl
  · intro k hk
    by_cases hlt : k < 16
    · have e1 : (k : Int) < 16 := by omega
      have e0 : (0 : Int) ≤ (k : Int) := by omega
      simp only [L_nib, e1, u32_wrap, lit32, TT, ↓reduceIte, Nat.reduceEqDiff, Nat.reduceAdd, Nat.reduceMul, reduceCtorEq, Nat.reduceLeDiff]
      refine AWc.family (L_nib2 k) (fun j => j ≤ 4) (fun j => 4 - j) 0 (by omega) ?_ ?_
      · refine Weak.calc [(0, 0), (1, 1)] (by decide) ?_ ?_
        · simp [WT, cbn, al_nib, ren_nib]
        · simp [WT, cbn, al_nib, ren_nib]
      · intro j hj
        by_cases hjl : j < 4
        · have f1 : (j : Int) < 4 := by omega
          simp only [L_nib2, f1, sh_1, and_u32, xor_u32, neg_u32, u32_back, lit_poly, lit_one, cbit_prog, TT, ↓reduceIte, Nat.reduceEqDiff, Nat.reduceAdd, Nat.reduceMul, reduceCtorEq, Nat.reduceLeDiff]
          refine famC_next (j + 1) (by omega) (by omega) ?_
          refine Weak.calc [(0, 0), (1, 1)] (by decide) ?_ ?_ <;> simp [WT, cbn, al_nib, ren_nib, wrap64 (x := (j : Int) + 1) (by omega)]
        · obtain rfl : j = 4 := by omega
          have f1 : ¬ ((4 : Nat) : Int) < 4 := by decide
          have hs : (nibC k).set k (.v (.int .u32 ((cbn 4 (BitVec.ofNat 32 k)).toNat))) = nibC (k + 1) := nib_set hlt
          have e2 : (k : Int) < ((16 : Nat) : Int) := by omega
          simp only [L_nib2, f1, e0, e1, e2, hs, nib_len, TT, ↓reduceIte, Nat.reduceEqDiff, Nat.reduceAdd, Nat.reduceMul, reduceCtorEq, Nat.reduceLeDiff]
          rw [if_pos (by omega)]
          refine famC_next (k + 1) (by omega) (by omega) ?_
          refine Weak.calc [(0, 0), (1, 1)] (by decide) ?_ ?_ <;> simp [WT, al_nib, ren_nib, wrap64 (x := (k : Int) + 1) (by omega)]
    · obtain rfl : k = 16 := by omega
      have e1 : ¬ ((16 : Nat) : Int) < 16 := by decide
      simp only [L_nib, e1, nib_16, tab16, len_tab, TT, ↓reduceIte, Nat.reduceEqDiff, Nat.reduceAdd, Nat.reduceMul, reduceCtorEq, Nat.reduceLeDiff]
      exact Ends.data (.inr rfl) (by simp [ET]; rfl) al_tab
end Go.Proofs.YtonglhkiobibgaaGreatDoor
namespace Go.Proofs.YtonglhkiobibgaaGreatDoor
open Go.RowKit
set_option maxRecDepth 100000
theorem nib_lt (d : BitVec 32) : (d &&& 15#32).toNat < 16 := by
  rw [BitVec.toNat_and]
  exact Nat.and_lt_two_pow d.toNat (n := 4) (show (15#32).toNat < 2 ^ 4 by decide)
theorem get_tab2 (d : BitVec 32) : tabA[(d &&& 15#32).toNat]? = some (.v (.int .u32 ((cbit4 (d &&& 15#32)).toNat))) := by
  rw [get_tab (nib_lt d)]
  simp only [tabV, BitVec.ofNat_toNat, BitVec.setWidth_eq]
theorem cbit4_prog (c : BitVec 32) : (c >>> 4) ^^^ cbit4 (c &&& 15#32) = cbit4 c := (cbit4_nib c).symm
theorem nib_ok (d : BitVec 32) : ((0 : Int) ≤ ((d &&& 15#32).toNat : Int) ∧ ((d &&& 15#32).toNat : Int) < ((16 : Nat) : Int)) = True := eq_true ⟨by omega, by have := nib_lt d; omega⟩
theorem take_snoc {α : Type} {l : List α} {k : Nat} {x : α} (h : l[k]? = some x) : l.take (k + 1) = l.take k ++ [x] := by
  obtain ⟨hk, rfl⟩ := List.getElem?_eq_some_iff.1 h
  rw [List.take_succ_eq_append_getElem hk]
theorem cgo_snoc {c : BitVec 32} {l : List Int} {k : Nat} {x : Int} (h : l[k]? = some x) : cgo c (l.take (k + 1)) = cbit4 (cbit4 (cgo c (l.take k) ^^^ BitVec.ofInt 32 x)) := by rw [take_snoc h, crc_snoc]; rfl
abbrev L_ext (fr : Bool) (c : BitVec 32) (l : List Int) (k : Nat) : ASt := ⟨envOf [(0, .v (.int .u32 ((cgo c (l.take k)).toNat))), (5, .op 0 0), (11, fB fr l), (12, .v (.int .i64 l.length)), (13, .v (.int .i64 k))], heapOf [(0, .row true 399 tabA)], 1⟩
set_option maxHeartbeats 1000000 in
theorem ext_spec (fr : Bool) (c : BitVec 32) (l : List Int) (nb : Nat) (hl : l.length ≤ 140737488355328) : ASound Tryz.prog 238 [.v (.int .u32 (c.toNat)), fB fr l] nb (.ret (.v (.int .u32 ((~~~ (cgo (~~~ c) l)).toNat))) []) := by
  refine ok_238.sound (by simp) ⟨trivial, al_fB l, trivial⟩ ?_
  simp only [ac_238, TT, ↓reduceIte, Nat.reduceEqDiff, Nat.reduceAdd, Nat.reduceMul, reduceCtorEq, Nat.reduceLeDiff]
  refine ⟨_, nibbles_spec _, ?_⟩
  simp only [len_tab, not_u32, u32_back, TT, ↓reduceIte, Nat.reduceEqDiff, Nat.reduceAdd, Nat.reduceMul, reduceCtorEq, Nat.reduceLeDiff]
  rw [setN_all tabA z16 rfl]
  refine AWc.family (L_ext fr (~~~ c) l) (fun k => k ≤ l.length) (fun k => l.length - k) 0 (Nat.zero_le _) ?_ ?_
  · refine Weak.calc [(200000, 0)] (by decide) ?_ ?_ <;> simp [WT, al_tab, ren_tab, cgo]
  · intro k hk
    by_cases hlt : k < l.length
    · obtain ⟨x, hx, e1, e0⟩ := lt_at hlt
      simp only [L_ext, e1, e0, get_B hx, u32_wrap x, xor_u32, and_u32, u32_back, sh_4, lit_15, nib_ok, get_tab2, cbit4_prog, TT, ↓reduceIte, Nat.reduceEqDiff, Nat.reduceAdd, Nat.reduceMul, reduceCtorEq, Nat.reduceLeDiff]
      refine famC_next (k + 1) (by omega) (by omega) ?_
      refine Weak.calc [(0, 0)] (by decide) ?_ ?_ <;> simp [WT, al_tab, ren_tab, cgo_snoc hx, wrap64 (x := (k : Int) + 1) (by omega)]
    · obtain rfl : k = l.length := by omega
      have e1 : ¬ ((l.length : Int) < (l.length : Int)) := by omega
      simp only [L_ext, e1, not_u32, u32_back, List.take_length, TT, ↓reduceIte, Nat.reduceEqDiff, Nat.reduceAdd, Nat.reduceMul, reduceCtorEq, Nat.reduceLeDiff]
      exact Ends.data (.inr rfl) (by simp [ET]) trivial
theorem sum_spec (fr : Bool) (l : List Int) (nb : Nat) (hl : l.length ≤ 140737488355328) : ASound Tryz.prog 208 [fB fr l] nb (.ret (.v (.int .u32 ((crc l).toNat))) []) := by
  refine ok_208.sound (by simp) ⟨al_fB l, trivial⟩ ?_
  simp only [ac_208, TT, ↓reduceIte, Nat.reduceEqDiff, Nat.reduceAdd, Nat.reduceMul, reduceCtorEq, Nat.reduceLeDiff]
  refine ⟨_, ext_spec fr 0#32 l _ hl, ?_⟩
  simp only [TT, ↓reduceIte, Nat.reduceEqDiff, Nat.reduceAdd, Nat.reduceMul, reduceCtorEq, Nat.reduceLeDiff]
  exact Ends.data (.inr rfl) (by simp [ET, crc]) trivial
end Go.Proofs.YtonglhkiobibgaaGreatDoor
namespace Go.Proofs.YtonglhkiobibgaaGreatDoor
open Go.RowKit
set_option maxRecDepth 100000
def okB (l : List Int) : Prop := ∀ x ∈ l, 0 ≤ x ∧ x < 256
theorem ASound.nil1 {P : Program} {f : FuncId} {fr : Bool} {rest : List AV} {nb : Nat} {am : AM} (h : ∀ A k, ASound P f (.v (.slice A 0 k) :: rest) nb am) : ASound P f (.fs fr [] 0 :: rest) nb am := by
  refine ⟨(h none 0).1, fun c us r R W hrun hr hfr hv => ?_⟩
  obtain ⟨u, us', rfl, h1, h2⟩ := hv
  obtain ⟨A, k, rfl, hk, _⟩ := h1
  exact (h A k).2 c _ r R W hrun hr hfr ⟨_, us', rfl, rfl, h2⟩
theorem bytesClone_spec (fr : Bool) (l : List Int) (nb : Nat) (h : l.length ≤ 140737488355328) : ASound Tryz.prog 108 [fB fr l] nb (.ret (fB true l) []) := by
  by_cases h0 : l.length = 0
  · have hl : l = [] := List.eq_nil_of_length_eq_zero h0
    subst hl
    refine ASound.nil1 fun A k => ?_
    refine ok_108.sound (by simp) ⟨trivial, trivial⟩ ?_
    cases A with
    | none =>
      simp only [ac_108, TT, ↓reduceIte, Nat.reduceEqDiff, Nat.reduceAdd, Nat.reduceMul, reduceCtorEq, Nat.reduceLeDiff]
      exact Ends.imp (r0 := .v (.slice none 0 0)) (.inr rfl) (by simp [ET]) trivial (Imp.nil true)
    | some A =>
      simp only [ac_108, TT, ↓reduceIte, Nat.reduceEqDiff, Nat.reduceAdd, Nat.reduceMul, reduceCtorEq, Nat.reduceLeDiff]
      refine Ends.weak (Weak.freezeC 500000 rfl (l := [(2, fB true [])]) (h := []) ?_ ?_) (Ends.data (.inr rfl) (by simp [ET, fB]) (al_fB []))
      · simp [WT, eB]
      · simp [WT]
  · refine ok_108.sound (by simp) ⟨al_fB l, trivial⟩ ?_
    simp only [ac_108, len_B, h, h0, TT, ↓reduceIte, Nat.reduceEqDiff, Nat.reduceAdd, Nat.reduceMul, reduceCtorEq, Nat.reduceLeDiff]
    refine Ends.weak (Weak.freezeC 500000 rfl (l := [(2, fB true l)]) (h := []) ?_ ?_) (Ends.data (.inr rfl) (by simp [ET, fB]) (al_fB l))
    · simp [WT]
    · simp [WT]
def lowC (c : BitVec 32) (k : Nat) : List AV := (List.range 4).map fun j => .v (.int .u8 (if j < k then ((c >>> (8 * j)).toNat : Int) % 256 else 0))
theorem low_set {c : BitVec 32} {k : Nat} (h : k < 4) : (lowC c k).set k (.v (.int .u8 (((c >>> (8 * k)).toNat : Int) % 256))) = lowC c (k + 1) := by
  apply List.ext_getElem?
  intro j
  rw [List.getElem?_set]
  simp only [lowC, List.length_map, List.length_range, List.getElem?_map]
  by_cases hj : j < 4
  · rw [List.getElem?_range hj]
    by_cases e : k = j
    · subst e; simp [h]
    · rw [if_neg e]
      simp only [Option.map_some]
      congr 4
      simp only [eq_iff_iff]
      omega
  · have h2 : (List.range 4)[j]? = none := by rw [List.getElem?_eq_none_iff]; simp; omega
    rw [h2, if_neg (by omega)]; rfl
theorem low_len (c : BitVec 32) (k : Nat) : (lowC c k).length = 4 := by simp [lowC]
theorem low_4 (c : BitVec 32) : lowC c 4 = eB (low4 c) := by simp [lowC, eB, low4, List.range_succ]
theorem al_low {p : Nat → Prop} (c : BitVec 32) (k : Nat) : AlL p (lowC c k) := AlL_map (e := fun j => .v (.int .u8 (if j < k then ((c >>> (8 * j)).toNat : Int) % 256 else 0))) (fun j => trivial) _
theorem ren_low {ρ : Nat → Nat} (c : BitVec 32) (k : Nat) : renL ρ (lowC c k) = lowC c k := renL_id (p := fun _ => False) (fun _ h => h.elim) (al_low c k)
abbrev L_low (c : BitVec 32) (k : Nat) : ASt := ⟨envOf [(0, .v (.int .u32 (c.toNat))), (3, .os 0 0 4 1), (7, .v (.int .i64 4)), (8, .v (.int .i64 k))], heapOf [(0, .row true 5 (lowC c k))], 1⟩
theorem low_spec (c : BitVec 32) (nb : Nat) : ASound Tryz.prog 207 [.v (.int .u32 (c.toNat))] nb (.ret (fB true (low4 c)) []) := by
  refine ok_207.sound (by simp) ⟨trivial, trivial⟩ ?_
  simp only [ac_207, TT, ↓reduceIte, Nat.reduceEqDiff, Nat.reduceAdd, Nat.reduceMul, reduceCtorEq, Nat.reduceLeDiff]
  refine AWc.family (L_low c) (fun k => k ≤ 4) (fun k => 4 - k) 0 (by omega) ?_ ?_
  · refine Weak.calc [(100000, 0)] (by decide) ?_ ?_
    · simp [WT]
    · simp [WT]; rfl
  · intro k hk
    by_cases hlt : k < 4
    · have e1 : (k : Int) < 4 := by omega
      have e2 : (k : Int) < ((4 : Nat) : Int) := by omega
      have e0 : (0 : Int) ≤ (k : Int) := by omega
      have w8 : IntKind.i64.wrap (8 * (k : Int)) = 8 * (k : Int) := wrap64 (by omega)
      have hs := sh_r c (8 * (k : Int)) (by omega) (by omega)
      rw [show (8 * (k : Int)).toNat = 8 * k from by omega] at hs
      simp only [L_low, e1, e2, e0, w8, hs, u8_wrap, low_set hlt, low_len, TT, ↓reduceIte, Nat.reduceEqDiff, Nat.reduceAdd, Nat.reduceMul, reduceCtorEq, Nat.reduceLeDiff]
      rw [if_pos (by omega)]
      refine famC_next (k + 1) (by omega) (by omega) ?_
      refine Weak.calc [(0, 0)] (by decide) ?_ ?_ <;> simp [WT, al_low, ren_low, wrap64 (x := (k : Int) + 1) (by omega)]
    · obtain rfl : k = 4 := by omega
      have e1 : ¬ ((4 : Nat) : Int) < 4 := by decide
      simp only [L_low, e1, low_4, TT, ↓reduceIte, Nat.reduceEqDiff, Nat.reduceAdd, Nat.reduceMul, reduceCtorEq, Nat.reduceLeDiff]
      refine Ends.weak (Weak.freezeC 0 rfl (l := [(2, fB true (low4 c))]) (h := []) ?_ ?_) (Ends.data (.inr rfl) (by simp [ET, fB]) (al_fB _))
      · have : (eB (low4 c)).take 4 = eB (low4 c) := by rw [List.take_of_length_le]; simp [eB, low4]
        simp [WT, this, show (low4 c).length = 4 from rfl]
      · simp [WT]
theorem grow_spec (n : Nat) (nb : Nat) (h0 : 0 < n) (h : n ≤ 140737488355328) : ASound Tryz.prog 237 [.v (.slice none 0 0), .v (.int .i64 n)] nb (.ret (.os nb 0 0 1) [(nb, some (.row true 5 []))]) := by
  refine ok_237.sound (by simp) ⟨trivial, trivial, trivial⟩ ?_
  have e1 : ¬ ((n : Int) < 0) := by omega
  have e2 : (0 : Int) < (n : Int) := by omega
  have w0 : IntKind.i64.wrap (((0 : Nat) : Int) - ((0 : Nat) : Int)) = 0 := rfl
  have w1 : IntKind.i64.wrap ((n : Int) - 0) = n := by rw [Int.sub_zero]; exact wrap64 (by omega)
  have z0 : ((0 : Int) ≤ ((0 : Nat) : Int) ∧ ((0 : Nat) : Int) ≤ ((0 : Nat) : Int)) = True := eq_true ⟨by decide, by decide⟩
  have z1 : ((0 : Int) ≤ ((0 : Nat) : Int) ∧ ((0 : Nat) : Int) ≤ (n : Int)) = True := eq_true ⟨by decide, by omega⟩
  simp only [ac_237, e1, e2, w0, w1, h, z0, z1, Nat.zero_mul, TT, ↓reduceIte, Nat.reduceEqDiff, Nat.reduceAdd, Nat.reduceMul, reduceCtorEq, Nat.reduceLeDiff]
  refine Ends.weak (Weak.forget 1800000 [(4, .os 1800000 0 0 1)] (fun t v hv => by simp at hv; obtain ⟨rfl, rfl⟩ := hv; simp [ET]) (by simp [ET]; exact ⟨rfl, rfl, rfl⟩)) ?_
  exact Ends.rows1 (i := 1800000) (r0 := .os 1800000 0 0 1) (.inr rfl) (by simp [ET]) rfl trivial (by simp [Al]) (by simp [ren, rn])
/-- lists, one behind the other -/
def catB (ls : List (Bool × List Int)) : List Int := ls.flatMap (·.2)
def eLs (ls : List (Bool × List Int)) : List AV := ls.map fun p => fB p.1 p.2
theorem al_Ls {p : Nat → Prop} (ls : List (Bool × List Int)) : AlL p (eLs ls) := AlL_map (e := fun p => fB p.1 p.2) (fun q => al_fB q.2) ls
theorem ren_Ls {ρ : Nat → Nat} (ls : List (Bool × List Int)) : renL ρ (eLs ls) = eLs ls := renL_id (p := fun _ => False) (fun _ h => h.elim) (al_Ls ls)
theorem get_Ls {ls : List (Bool × List Int)} {i : Nat} {q : Bool × List Int} (h : ls[i]? = some q) : (eLs ls)[i]? = some (.fs q.1 (eB q.2) q.2.length) := by simp [eLs, h, fB]
theorem cat_snoc {ls : List (Bool × List Int)} {k : Nat} {q : Bool × List Int} (h : ls[k]? = some q) : catB (ls.take (k + 1)) = catB (ls.take k) ++ q.2 := by
  rw [take_snoc h]; simp [catB]
theorem cat_le (ls : List (Bool × List Int)) (k : Nat) : (catB (ls.take k)).length ≤ (catB ls).length := by
  have : catB ls = catB (ls.take k) ++ catB (ls.drop k) := by unfold catB; rw [← List.flatMap_append, List.take_append_drop]
  rw [this, List.length_append]; omega
abbrev L_cat1 (y : Bool) (ls : List (Bool × List Int)) (k : Nat) : ASt := ⟨envOf [(0, .os 0 0 ls.length 1), (3, .v (.int .i64 (catB (ls.take k)).length)), (9, .os 0 0 ls.length 1), (10, .v (.int .i64 ls.length)), (11, .v (.int .i64 k))], heapOf [(0, .row y 37 (eLs ls))], 1⟩
abbrev L_cat2 (y : Bool) (ls : List (Bool × List Int)) (k : Nat) : ASt := ⟨envOf [(6, .os 1 0 (catB (ls.take k)).length 1), (25, .os 0 0 ls.length 1), (26, .v (.int .i64 ls.length)), (27, .v (.int .i64 k))], heapOf [(0, .row y 37 (eLs ls)), (1, .row true 5 (eB (catB (ls.take k))))], 2⟩
set_option maxHeartbeats 1000000 in
theorem concat_spec (y : Bool) (ls : List (Bool × List Int)) (id nb : Nat) (hid : id < nb) (hn : ls.length ≤ 1000) (hne : ls ≠ []) (h0 : 0 < (catB ls).length) (h : (catB ls).length ≤ 140737488355328) :
    ASound Tryz.prog 206 [.os id 0 ls.length 1] nb (rowM id (.row y 37 (eLs ls)) (.ret (.os nb 0 (catB ls).length 1) [(id, some (.row y 37 (eLs ls))), (nb, some (.row true 5 (eB (catB ls))))])) := by
  refine ok_206.soundR (by simp) ⟨rfl, trivial⟩ (by intro h; exact hne (List.map_eq_nil_iff.1 h)) (al_Ls ls) (al_Ls ls) rfl hid ?_
  simp only [ac_206, renL, ren, TT, ↓reduceIte, Nat.reduceEqDiff, Nat.reduceAdd, Nat.reduceMul, reduceCtorEq, Nat.reduceLeDiff]
  refine AWc.family (L_cat1 y ls) (fun k => k ≤ ls.length) (fun k => ls.length - k) 0 (Nat.zero_le _) ?_ ?_
  · refine Weak.calc [(0, 0)] (by decide) ?_ ?_ <;> simp [WT, al_Ls, ren_Ls, catB]
  · intro k hk
    by_cases hlt : k < ls.length
    · obtain ⟨q, hq, e1, e0⟩ := lt_at hlt
      have hle := cat_le ls (k + 1)
      rw [cat_snoc hq, List.length_append] at hle
      have w1 : IntKind.i64.wrap (((catB (ls.take k)).length : Int) + (q.2.length : Int)) = (catB (ls.take k)).length + (q.2.length : Int) := wrap64 (by omega)
      have n1 : ¬ (((catB (ls.take k)).length : Int) + (q.2.length : Int) < 0) := by omega
      simp only [L_cat1, e1, e0, get_Ls hq, w1, n1, TT, ↓reduceIte, Nat.reduceEqDiff, Nat.reduceAdd, Nat.reduceMul, reduceCtorEq, Nat.reduceLeDiff]
      refine famC_next (k + 1) (by omega) (by omega) ?_
      refine Weak.calc [(0, 0)] (by decide) ?_ ?_ <;> simp [WT, al_Ls, ren_Ls, cat_snoc hq, wrap64 (x := (k : Int) + 1) (by omega)]
    · obtain rfl : k = ls.length := by omega
      have e1 : ¬ ((ls.length : Int) < (ls.length : Int)) := by omega
      simp only [L_cat1, e1, List.take_length, TT, ↓reduceIte, Nat.reduceEqDiff, Nat.reduceAdd, Nat.reduceMul, reduceCtorEq, Nat.reduceLeDiff]
      refine ⟨_, grow_spec (catB ls).length _ h0 h, ?_⟩
      simp only [TT, ↓reduceIte, Nat.reduceEqDiff, Nat.reduceAdd, Nat.reduceMul, reduceCtorEq, Nat.reduceLeDiff]
      refine AWc.family (L_cat2 y ls) (fun k => k ≤ ls.length) (fun k => ls.length - k) 0 (Nat.zero_le _) ?_ ?_
      · refine Weak.calc [(0, 0), (200001, 1)] (by decide) ?_ ?_ <;> simp [WT, al_Ls, ren_Ls, catB, eB]
      · intro k hk
        by_cases hlt : k < ls.length
        · obtain ⟨q, hq, e1, e0⟩ := lt_at hlt
          have hle := cat_le ls (k + 1)
          rw [cat_snoc hq, List.length_append] at hle
          simp only [L_cat2, e1, e0, get_Ls hq, len_B, TT, ↓reduceIte, Nat.reduceEqDiff, Nat.reduceAdd, Nat.reduceMul, reduceCtorEq, Nat.reduceLeDiff]
          rw [if_pos (by omega)]
          refine famC_next (k + 1) (by omega) (by omega) ?_
          refine Weak.calc [(0, 0), (600002, 1)] (by decide) ?_ ?_ <;> simp [WT, al_Ls, ren_Ls, cat_snoc hq, app_B, wrap64 (x := (k : Int) + 1) (by omega)]
        · obtain rfl : k = ls.length := by omega
          have e1 : ¬ ((ls.length : Int) < (ls.length : Int)) := by omega
          simp only [L_cat2, e1, List.take_length, TT, ↓reduceIte, Nat.reduceEqDiff, Nat.reduceAdd, Nat.reduceMul, reduceCtorEq, Nat.reduceLeDiff]
          exact EndsR.rows1 (i := 1) (r0 := .os 1 0 (catB ls).length 1) (.inr rfl) (by simp [ET]) rfl (by decide) rfl (al_B _) (by simp [Al]) (by simp [ren, rn])
theorem low_length (c : BitVec 32) : (low4 c).length = 4 := rfl
theorem seal_spec (fr : Bool) (l : List Int) (nb : Nat) (h : l.length ≤ 140737488355320) : ASound Tryz.prog 150 [fB fr l] nb (.ret (fB true (sealB l)) []) := by
  refine ok_150.sound (by simp) ⟨al_fB l, trivial⟩ ?_
  simp only [ac_150, TT, ↓reduceIte, Nat.reduceEqDiff, Nat.reduceAdd, Nat.reduceMul, reduceCtorEq, Nat.reduceLeDiff]
  refine ⟨_, sum_spec fr l _ (by omega), ?_⟩
  simp only [TT, ↓reduceIte, Nat.reduceEqDiff, Nat.reduceAdd, Nat.reduceMul, reduceCtorEq, Nat.reduceLeDiff]
  refine ⟨_, low_spec (crc l) _, ?_⟩
  simp only [TT, ↓reduceIte, Nat.reduceEqDiff, Nat.reduceAdd, Nat.reduceMul, reduceCtorEq, Nat.reduceLeDiff]
  have hc : catB [(fr, l), (true, low4 (crc l))] = sealB l := by simp [catB, sealB]
  refine ⟨_, concat_spec true [(fr, l), (true, low4 (crc l))] 500000 600000 (by omega) (by simp) (by simp) (by rw [hc]; simp [sealB, low_length]) (by rw [hc]; simp [sealB, low_length]; omega), ?_⟩
  rw [hc]
  simp only [eLs, low_length, TT, ↓reduceIte, Nat.reduceEqDiff, Nat.reduceAdd, Nat.reduceMul, reduceCtorEq, Nat.reduceLeDiff]
  refine Ends.weak (Weak.freezeC 600000 rfl (l := [(2, fB true (sealB l))]) (h := []) ?_ ?_) (Ends.data (.inr rfl) (by simp [ET, fB]) (al_fB _))
  · simp [WT]
  · simp [WT]
end Go.Proofs.YtonglhkiobibgaaGreatDoor
namespace Go.Proofs.YtonglhkiobibgaaGreatDoor
open Go.RowKit
set_option maxRecDepth 100000
theorem strOf_data (l : List Int) : (strOf l).data.toList = l.map fun n => UInt8.ofNat n.toNat := by
  have key : ∀ (l : List Int) (b : ByteArray), (l.foldl (fun r n => r.push (UInt8.ofNat n.toNat)) b).data.toList = b.data.toList ++ l.map fun n => UInt8.ofNat n.toNat := by
    intro l
    induction l with
    | nil => intro b; simp
    | cons x l ih => intro b; rw [List.foldl_cons, ih]; simp [ByteArray.push]
  have := key l .empty
  simpa [strOf] using this
theorem strOf_inj {a b : List Int} (ha : okB a) (hb : okB b) : strOf a = strOf b ↔ a = b := by
  constructor
  · intro h
    have h2 : (a.map fun n : Int => UInt8.ofNat n.toNat) = b.map fun n : Int => UInt8.ofNat n.toNat := by rw [← strOf_data, ← strOf_data, h]
    have hl : a.length = b.length := by simpa using congrArg List.length h2
    apply List.ext_getElem? 
    intro j
    by_cases hj : j < a.length
    · have e := congrArg (fun l => l[j]?) h2
      simp only [List.getElem?_map, List.getElem?_eq_getElem hj, List.getElem?_eq_getElem (show j < b.length by omega), Option.map_some, Option.some.injEq] at e
      have x1 := ha a[j] (List.getElem_mem _)
      have x2 := hb b[j] (List.getElem_mem _)
      have e2 := congrArg UInt8.toNat e
      simp only [UInt8.toNat_ofNat'] at e2
      rw [List.getElem?_eq_getElem hj, List.getElem?_eq_getElem (show j < b.length by omega)]
      congr 1
      omega
    · rw [List.getElem?_eq_none_iff.2 (by omega), List.getElem?_eq_none_iff.2 (by omega)]
  · rintro rfl; rfl
theorem bytesOf_B (l : List Int) : bytesOf (eB l) = some l := by
  induction l with
  | nil => rfl
  | cons x l ih =>
    show bytesOf (.v (.int .u8 x) :: eB l) = _
    rw [bytesOf, ih]
theorem equal_spec (fa fb : Bool) (a b : List Int) (nb : Nat) (ha : okB a) (hb : okB b) : ASound Tryz.prog 107 [fB fa a, fB fb b] nb (.ret (.v (.bool (decide (a = b)))) []) := by
  refine ok_107.sound (by simp) ⟨al_fB a, al_fB b, trivial⟩ ?_
  simp only [ac_107, len_B, ↓bytesOf_B, strOp, strOf_inj ha hb, TT, ↓reduceIte, Nat.reduceEqDiff, Nat.reduceAdd, Nat.reduceMul, reduceCtorEq, Nat.reduceLeDiff]
  exact Ends.data (.inr rfl) (by simp [ET]) trivial
theorem imp_nilE (e : Int) : Imp (.tup [.v (.slice none 0 0), .v (.int .i64 e)]) (.tup [fB true [], .v (.int .i64 e)]) := Imp.tupL ⟨Imp.nil true, Imp.refl _, trivial⟩
end Go.Proofs.YtonglhkiobibgaaGreatDoor
namespace Go.Proofs.YtonglhkiobibgaaGreatDoor
open Go.RowKit
/-- a number in groups of 7 bits -/
def gp (m : Nat) : List Int := if m < 128 then [(m : Int)] else ((m % 128 + 128 : Nat) : Int) :: gp (m / 128)
termination_by m
decreasing_by omega
theorem gp_small {m : Nat} (h : m < 128) : gp m = [(m : Int)] := by rw [gp, if_pos h]
theorem gp_big {m : Nat} (h : ¬ m < 128) : gp m = ((m % 128 + 128 : Nat) : Int) :: gp (m / 128) := by rw [gp, if_neg h]
theorem gp_len : ∀ (k m : Nat), m < 128 ^ (k + 1) → (gp m).length ≤ k + 1
  | 0, m, h => by rw [gp_small (by simpa using h)]; simp
  | k + 1, m, h => by
    by_cases h1 : m < 128
    · rw [gp_small h1]; simp
    · rw [gp_big h1, List.length_cons]
      have := gp_len k (m / 128) (by rw [Nat.div_lt_iff_lt_mul (by decide), ← Nat.pow_succ]; exact h)
      omega
theorem gp_le {m : Nat} (h : m < 18446744073709551616) : (gp m).length ≤ 10 := gp_len 9 m (Nat.lt_of_lt_of_le h (by decide))
/-- a number with its sign -/
def zz (n : Int) : Nat := if 0 ≤ n then (2 * n).toNat else (-2 * n - 1).toNat
def i64ok (n : Int) : Prop := -9223372036854775808 ≤ n ∧ n ≤ 9223372036854775807
theorem zz_lt {n : Int} (h : i64ok n) : zz n < 18446744073709551616 := by
  unfold zz i64ok at *; split <;> omega
def encT (t : List Int) : List Int := gp t.length ++ t
def encR (r : Rec) : List Int := [r.kind, (r.nums.length : Int)] ++ r.nums.flatMap (fun n => gp (zz n)) ++ ((r.texts.length : Int) :: r.texts.flatMap encT)
def recE (r : Rec) : Int := if r.kind < 0 ∨ 255 < r.kind then 22 else if 64 < r.nums.length ∨ 64 < r.texts.length then 3 else if ∃ t ∈ r.texts, 4096 < t.length then 5 else 0
def encode (r : Rec) : List Int × Int := if recE r = 0 then (sealB (encR r), 0) else ([], recE r)
theorem or_tab : ∀ a, a < 256 → (a ||| 128) % 256 = a % 128 + 128 := by decide +kernel
theorem or_128 (x : Int) : IntKind.u8.wrap ((BitVec.ofInt IntKind.u8.bits (x % 256) ||| BitVec.ofInt IntKind.u8.bits 128).toNat : Int) = x % 128 + 128 := by
  rw [u8_wrap]
  have h1 : (BitVec.ofInt IntKind.u8.bits (x % 256) ||| BitVec.ofInt IntKind.u8.bits 128).toNat = (x % 256).toNat ||| 128 := by
    rw [BitVec.toNat_or, BitVec.toNat_ofInt, BitVec.toNat_ofInt]
    show ((x % 256) % ((2 ^ 8 : Nat) : Int)).toNat ||| ((128 : Int) % ((2 ^ 8 : Nat) : Int)).toNat = _
    rw [show ((2 ^ 8 : Nat) : Int) = 256 from rfl, Int.emod_emod_of_dvd _ (Int.dvd_refl _)]
    rfl
  rw [h1]
  have h2 := or_tab (x % 256).toNat (by omega)
  omega
theorem or_128' (x : Int) : IntKind.u8.wrap ((BitVec.ofInt IntKind.u8.bits (IntKind.u8.wrap x) ||| BitVec.ofInt IntKind.u8.bits 128).toNat : Int) = x % 128 + 128 := by rw [u8_wrap x]; exact or_128 x
theorem sh_u64 (m : Nat) : shVal .shr .u64 (m : Int) 7 = some (.int .u64 ((m / 128 : Nat) : Int)) := by
  have h : Int.fdiv (m : Int) (2 ^ min (Int.toNat 7) IntKind.u64.bits) = ((m / 128 : Nat) : Int) := by
    show Int.fdiv (m : Int) 128 = _
    rw [Int.fdiv_eq_ediv_of_nonneg _ (by decide)]
    omega
  simp only [shVal, if_neg (show ¬ ((7 : Int) < 0) by decide), h]
theorem u64_mod (x : Int) : IntKind.u64.wrap x = x % 18446744073709551616 := by simp [IntKind.wrap, IntKind.bits, IntKind.signed]
theorem ofInt64 (x : Int) : (BitVec.ofInt 64 x).toNat = (x % 18446744073709551616).toNat := by rw [BitVec.toNat_ofInt]; rfl
theorem fd63 {n : Int} (h : i64ok n) : n.fdiv (2 ^ min (Int.toNat 63) IntKind.i64.bits) = if 0 ≤ n then 0 else -1 := by
  show n.fdiv 9223372036854775808 = _
  rw [Int.fdiv_eq_ediv_of_nonneg _ (by decide)]
  unfold i64ok at h
  split <;> omega
theorem zz_prog {n : Int} (h : i64ok n) : IntKind.u64.wrap (IntKind.i64.wrap ((BitVec.ofInt IntKind.i64.bits (IntKind.i64.wrap (n * 2 ^ min (Int.toNat 1) IntKind.i64.bits)) ^^^ BitVec.ofInt IntKind.i64.bits (n.fdiv (2 ^ min (Int.toNat 63) IntKind.i64.bits))).toNat : Int)) = (zz n : Int) := by
  rw [fd63 h]
  have e2 : n * 2 ^ min (Int.toNat 1) IntKind.i64.bits = n * 2 := rfl
  rw [e2]
  have hx : ((BitVec.ofInt IntKind.i64.bits (IntKind.i64.wrap (n * 2)) ^^^ BitVec.ofInt IntKind.i64.bits (if 0 ≤ n then 0 else -1)).toNat : Int) = (zz n : Int) := by
    show ((BitVec.ofInt 64 (IntKind.i64.wrap (n * 2)) ^^^ BitVec.ofInt 64 (if 0 ≤ n then 0 else -1)).toNat : Int) = _
    unfold zz i64ok at *
    by_cases h0 : 0 ≤ n
    · rw [if_pos h0, if_pos h0, show BitVec.ofInt 64 0 = 0#64 from rfl, BitVec.xor_zero, ofInt64, IntKind.wrap_i64]
      omega
    · rw [if_neg h0, if_neg h0, show BitVec.ofInt 64 (-1) = BitVec.allOnes 64 from by decide, BitVec.xor_allOnes, BitVec.toNat_not, ofInt64, IntKind.wrap_i64]
      omega
  rw [hx, u64_mod, IntKind.wrap_i64]
  have := zz_lt h
  omega
end Go.Proofs.YtonglhkiobibgaaGreatDoor
namespace Go.Proofs.YtonglhkiobibgaaGreatDoor
open Go.RowKit
set_option maxRecDepth 100000
abbrev L_gp (y : Bool) (q : List Int × Nat) : ASt := ⟨envOf [(0, .os 0 0 q.1.length 1), (1, .v (.int .u64 q.2))], heapOf [(0, .row y 5 (eB q.1))], 1⟩
theorem groups_spec (y : Bool) (l : List Int) (m : Nat) (id nb : Nat) (hid : id < nb) (hne : l ≠ []) (hl : l.length ≤ 140737488355300) (hm : m < 18446744073709551616) :
    ASound Tryz.prog 149 [.os id 0 l.length 1, .v (.int .u64 m)] nb (rowsM [(id, y, 5, eB l)] (.ret (.os nb 0 (l ++ gp m).length 1) [(id, none), (nb, some (.row y 5 (eB (l ++ gp m))))])) := by
  refine FnOk.soundX (m := 0) [(id, y, 5, eB l)] [none] ok_149 (W := [(nb, some (.row y 5 (eB (l ++ gp m))))]) (by simp) (by simp [AlL, Al]) (by simp) (by intro x hx; simp at hx; subst hx; exact ⟨by simp [eB, hne], al_B l, hid⟩) rfl (Nat.zero_le _) (by intro k cl h; rcases k with _ | k <;> simp at h) ?_
  simp only [ac_149, rowsIn, renL, ren, rn, List.map_cons, List.map_nil, List.zipIdx_cons, List.zipIdx_nil, List.find?_cons_of_pos, beq_self_eq_true, TT, ↓reduceIte, Nat.reduceEqDiff, Nat.reduceAdd, Nat.reduceMul, reduceCtorEq, Nat.reduceLeDiff]
  refine AWc.family (L_gp y) (fun q => q.1 ++ gp q.2 = l ++ gp m ∧ q.2 < 18446744073709551616 ∧ q.1.length ≤ 140737488355320) (fun q => q.2) (l, m) ⟨rfl, hm, by simp only; omega⟩ ?_ ?_
  · refine Weak.calc [(0, 0)] (by decide) ?_ ?_ <;> simp [WT]
  · rintro ⟨l', m'⟩ ⟨he, hm', hl'⟩
    simp only at he hm' hl'
    have hlen : (l' ++ gp m').length ≤ 140737488355320 := by rw [he, List.length_append]; have := gp_le hm; omega
    rw [List.length_append] at hlen
    by_cases hb : m' < 128
    · have e1 : ¬ ((127 : Int) < (m' : Int)) := by omega
      rw [gp_small hb] at hlen he
      simp only [List.length_cons, List.length_nil] at hlen
      have w8 : IntKind.u8.wrap (m' : Int) = m' := by rw [u8_wrap]; omega
      simp only [L_gp, e1, w8, len_B, TT, ↓reduceIte, Nat.reduceEqDiff, Nat.reduceAdd, Nat.reduceMul, reduceCtorEq, Nat.reduceLeDiff]
      rw [if_pos (by omega)]
      have hc : eB l' ++ [AV.v (.int .u8 (m' : Int))] = eB (l' ++ [(m' : Int)]) := by rw [app_B, one_B]
      rw [← he, hc]
      exact EndsX.rows1 (i := 600001) (r0 := .os 600001 0 (l' ++ [(m' : Int)]).length 1) (.inr rfl) (by simp [ET]) rfl (al_B _) (by simp [Al]) (by simp [ren, rn]) trivial
    · have e1 : ((127 : Int) < (m' : Int)) := by omega
      have hg := gp_big hb
      rw [hg, List.length_cons] at hlen
      simp only [L_gp, e1, or_128', sh_u64, len_B, TT, ↓reduceIte, Nat.reduceEqDiff, Nat.reduceAdd, Nat.reduceMul, reduceCtorEq, Nat.reduceLeDiff]
      rw [if_pos (by omega)]
      refine famC_next (l' ++ [((m' % 128 + 128 : Nat) : Int)], m' / 128) (by simp only; omega) ⟨by rw [← he, hg]; simp, by simp only; omega, by simp only [List.length_append, List.length_cons, List.length_nil]; omega⟩ ?_
      refine Weak.calc [(700001, 0)] (by decide) ?_ ?_ <;> simp [WT, app_B, one_B]
end Go.Proofs.YtonglhkiobibgaaGreatDoor
namespace Go.Proofs.YtonglhkiobibgaaGreatDoor
open Go.RowKit
variable {P : Program} {c d : Cx}
mutual
/-- all labels say young; all names are S's -/
def Yg (S : Nat → Prop) : AV → Prop
  | .any | .v _ | .wv _ => True
  | .fs fr cs _ | .fp fr cs _ | .us fr _ cs _ => fr = true ∧ YgL S cs
  | .agg cs | .tup cs | .fn _ cs => YgL S cs
  | .ifc _ a => Yg S a
  | .os id _ _ _ | .op id _ | .mp id => S id
  | .ws _ _ | .wp _ => False
def YgL (S : Nat → Prop) : List AV → Prop
  | [] => True
  | a :: r => Yg S a ∧ YgL S r
end
theorem YgL_iff {S : Nat → Prop} : ∀ {l : List AV}, YgL S l ↔ ∀ a ∈ l, Yg S a
  | [] => by simp [YgL]
  | a :: r => by rw [YgL, YgL_iff (l := r)]; simp
mutual
theorem VR.yg {S : Nat → Prop} (hw : d.w = c.w) (hk : ∀ b, b < c.w.heap.size → c.ok true b → d.ok true b) (hn : ∀ i x, S i → c.φ i = some x → d.φ i = some x) : ∀ {a : AV} {u : Value}, Yg S a → VR c a u → VR d a u
  | .any, u, _, _ => trivial
  | .v x, u, _, k => k
  | .wv q, u, _, k => k
  | .fs fr cs n, u, q, k => by
    obtain ⟨A, k', rfl, hk', hm⟩ := k
    refine ⟨A, k', rfl, hk', fun h0 => ?_⟩
    obtain ⟨b, off, rfl, e1, e2, e3⟩ := hm h0
    obtain ⟨rfl, q2⟩ := q
    exact ⟨b, off, rfl, by rw [hw]; exact e1, hk b e1 e2, VRm.yg hw hk hn q2 e3⟩
  | .fp fr cs n, u, q, k => by
    obtain ⟨b, off, rfl, e1, e2, e3⟩ := k
    obtain ⟨rfl, q2⟩ := q
    exact ⟨b, off, rfl, by rw [hw]; exact e1, hk b e1 e2, VRm.yg hw hk hn q2 e3⟩
  | .us fr e cs n, u, q, k => by
    obtain ⟨A, k', rfl, hk', hm⟩ := k
    refine ⟨A, k', rfl, hk', fun h0 => ?_⟩
    obtain ⟨b, rfl, e2, ⟨vs, e1⟩, e3⟩ := hm h0
    obtain ⟨rfl, q2⟩ := q
    exact ⟨b, rfl, hk b (lt_of_blk e1) e2, ⟨vs, by rw [hw]; exact e1⟩, VRm.yg hw hk hn q2 e3⟩
  | .os id off n sz, u, q, k => by
    obtain ⟨A, k', rfl, hk', hm⟩ := k
    refine ⟨A, k', rfl, hk', ?_⟩
    rcases hm with ⟨h1, h2⟩ | ⟨b, h1, rfl, cs, e, f, h2, h3⟩
    · obtain ⟨x, hx⟩ := Option.ne_none_iff_exists'.1 h1
      exact .inl ⟨by rw [hn _ _ q hx]; simp, h2⟩
    · exact .inr ⟨b, hn _ _ q h1, rfl, cs, e, f, by rw [hw]; exact h2, h3⟩
  | .op id off, u, q, k => by
    obtain ⟨b, h1, rfl, h2⟩ := k
    exact ⟨b, hn _ _ q h1, rfl, by rw [hw]; exact h2⟩
  | .mp id, u, q, k => by
    obtain ⟨b, h1, rfl⟩ := k
    exact ⟨b, hn _ _ q h1, rfl⟩
  | .ifc t a, u, q, k => by obtain ⟨v, rfl, k⟩ := k; exact ⟨v, rfl, VR.yg hw hk hn (a := a) q k⟩
  | .agg l, u, q, k => by obtain ⟨us, rfl, k⟩ := k; exact ⟨us, rfl, VRl.yg hw hk hn q k⟩
  | .tup l, u, q, k => by obtain ⟨us, rfl, k⟩ := k; exact ⟨us, rfl, VRt.yg hw hk hn q k⟩
  | .fn f l, u, q, k => by obtain ⟨us, rfl, k⟩ := k; exact ⟨us, rfl, VRt.yg hw hk hn q k⟩
theorem VRm.yg {S : Nat → Prop} (hw : d.w = c.w) (hk : ∀ b, b < c.w.heap.size → c.ok true b → d.ok true b) (hn : ∀ i x, S i → c.φ i = some x → d.φ i = some x) {b : Nat} : ∀ {cs : List AV} {off : Nat}, YgL S cs → VRm c b off cs → VRm d b off cs
  | [], _, _, _ => trivial
  | a :: r, off, q, k => by
    rw [VRm] at k ⊢
    obtain ⟨⟨u, h1, h2, h3⟩, h4⟩ := k
    exact ⟨⟨u, by rw [hw]; exact h1, h2, VR.yg hw hk hn q.1 h3⟩, VRm.yg hw hk hn q.2 h4⟩
theorem VRl.yg {S : Nat → Prop} (hw : d.w = c.w) (hk : ∀ b, b < c.w.heap.size → c.ok true b → d.ok true b) (hn : ∀ i x, S i → c.φ i = some x → d.φ i = some x) : ∀ {cs : List AV} {us : List Value}, YgL S cs → VRl c cs us → VRl d cs us
  | [], _, _, k => k
  | a :: r, us, q, k => by
    rw [VRl] at k ⊢
    obtain ⟨u, us', rfl, h1, h2, h3⟩ := k
    exact ⟨u, us', rfl, h1, VR.yg hw hk hn q.1 h2, VRl.yg hw hk hn q.2 h3⟩
theorem VRt.yg {S : Nat → Prop} (hw : d.w = c.w) (hk : ∀ b, b < c.w.heap.size → c.ok true b → d.ok true b) (hn : ∀ i x, S i → c.φ i = some x → d.φ i = some x) : ∀ {cs : List AV} {us : List Value}, YgL S cs → VRt c cs us → VRt d cs us
  | [], _, _, k => k
  | a :: r, us, q, k => by
    rw [VRt] at k ⊢
    obtain ⟨u, us', rfl, h2, h3⟩ := k
    exact ⟨u, us', rfl, VR.yg hw hk hn q.1 h2, VRt.yg hw hk hn q.2 h3⟩
end
mutual
/-- what is known of it, as old data -/
def od : AV → AV
  | .any => .any
  | .v x => .v x
  | .wv k => .wv k
  | .fs _ cs n => .fs false (odL cs) n
  | .fp _ cs n => .fp false (odL cs) n
  | .us _ e cs n => .us false e (odL cs) n
  | .agg l => .agg (odL l)
  | .tup l => .tup (odL l)
  | .fn f l => .fn f (odL l)
  | .ifc t a => .ifc t (od a)
  | .os _ _ _ _ | .op _ _ | .mp _ | .ws _ _ | .wp _ => .any
def odL : List AV → List AV
  | [] => []
  | a :: r => od a :: odL r
end
theorem odL_map : ∀ l : List AV, odL l = l.map od
  | [] => rfl
  | a :: r => by rw [odL, odL_map r]; rfl
mutual
theorem VR.od (hw : d.w = c.w) (hk : ∀ fr b, b < c.w.heap.size → c.ok fr b → d.ok false b) : ∀ {a : AV} {u : Value}, VR c a u → VR d (od a) u
  | .any, u, _ => trivial
  | .v x, u, k => k
  | .wv q, u, k => k
  | .ws _ _, u, _ => trivial
  | .wp _, u, _ => trivial
  | .mp _, u, _ => trivial
  | .os _ _ _ _, u, _ => trivial
  | .op _ _, u, _ => trivial
  | .fs fr cs n, u, k => by
    obtain ⟨A, k', rfl, hk', hm⟩ := k
    refine ⟨A, k', rfl, hk', fun h0 => ?_⟩
    obtain ⟨b, off, rfl, e1, e2, e3⟩ := hm h0
    exact ⟨b, off, rfl, by rw [hw]; exact e1, hk fr b e1 e2, VRm.od hw hk e3⟩
  | .fp fr cs n, u, k => by
    obtain ⟨b, off, rfl, e1, e2, e3⟩ := k
    exact ⟨b, off, rfl, by rw [hw]; exact e1, hk fr b e1 e2, VRm.od hw hk e3⟩
  | .us fr e cs n, u, k => by
    obtain ⟨A, k', rfl, hk', hm⟩ := k
    refine ⟨A, k', rfl, hk', fun h0 => ?_⟩
    obtain ⟨b, rfl, e2, ⟨vs, e1⟩, e3⟩ := hm h0
    exact ⟨b, rfl, hk fr b (lt_of_blk e1) e2, ⟨vs, by rw [hw]; exact e1⟩, VRm.od hw hk e3⟩
  | .ifc t a, u, k => by obtain ⟨v, rfl, k⟩ := k; exact ⟨v, rfl, VR.od hw hk (a := a) k⟩
  | .agg l, u, k => by obtain ⟨us, rfl, k⟩ := k; exact ⟨us, rfl, VRl.od hw hk k⟩
  | .tup l, u, k => by obtain ⟨us, rfl, k⟩ := k; exact ⟨us, rfl, VRt.od hw hk k⟩
  | .fn f l, u, k => by obtain ⟨us, rfl, k⟩ := k; exact ⟨us, rfl, VRt.od hw hk k⟩
theorem VRm.od (hw : d.w = c.w) (hk : ∀ fr b, b < c.w.heap.size → c.ok fr b → d.ok false b) {b : Nat} : ∀ {cs : List AV} {off : Nat}, VRm c b off cs → VRm d b off (odL cs)
  | [], _, _ => trivial
  | a :: r, off, k => by
    rw [VRm] at k
    rw [odL, VRm]
    obtain ⟨⟨u, h1, h2, h3⟩, h4⟩ := k
    exact ⟨⟨u, by rw [hw]; exact h1, h2, VR.od hw hk h3⟩, VRm.od hw hk h4⟩
theorem VRl.od (hw : d.w = c.w) (hk : ∀ fr b, b < c.w.heap.size → c.ok fr b → d.ok false b) : ∀ {cs : List AV} {us : List Value}, VRl c cs us → VRl d (odL cs) us
  | [], _, k => k
  | a :: r, us, k => by
    rw [VRl] at k
    rw [odL, VRl]
    obtain ⟨u, us', rfl, h1, h2, h3⟩ := k
    exact ⟨u, us', rfl, h1, VR.od hw hk h2, VRl.od hw hk h3⟩
theorem VRt.od (hw : d.w = c.w) (hk : ∀ fr b, b < c.w.heap.size → c.ok fr b → d.ok false b) : ∀ {cs : List AV} {us : List Value}, VRt c cs us → VRt d (odL cs) us
  | [], _, k => k
  | a :: r, us, k => by
    rw [VRt] at k
    rw [odL, VRt]
    obtain ⟨u, us', rfl, h2, h3⟩ := k
    exact ⟨u, us', rfl, VR.od hw hk h2, VRt.od hw hk h3⟩
end
def cellsAt : List RW → Nat → Option (List AV)
  | [], _ => none
  | x :: r, id => if id = x.1 then some x.2.2.2 else cellsAt r id
theorem cellsAt_mem : ∀ {rws : List RW} {id : Nat} {cs : List AV}, cellsAt rws id = some cs → ∃ (j : Nat) (x : RW), rws[j]? = some x ∧ x.1 = id ∧ x.2.2.2 = cs
  | [], _, _, h => by cases h
  | x :: r, id, cs, h => by
    rw [cellsAt] at h
    split at h
    · rename_i e; cases h; exact ⟨0, x, rfl, e.symm, rfl⟩
    · obtain ⟨j, y, h1, h2⟩ := cellsAt_mem h
      exact ⟨j + 1, y, by simpa using h1, h2⟩
mutual
/-- an argument, its rows as data -/
def bo (rws : List RW) : AV → AV
  | .os id off n sz => match cellsAt rws id with | some cs => .fs false (odL ((cs.drop off).take (n * sz))) n | none => .any
  | .op id off => match cellsAt rws id with | some cs => .fp false (odL cs) off | none => .any
  | .agg l => .agg (boL rws l)
  | .fn f l => .fn f (boL rws l)
  | .ifc t a => .ifc t (bo rws a)
  | a => od a
def boL (rws : List RW) : List AV → List AV
  | [] => []
  | a :: r => bo rws a :: boL rws r
end
section
variable {rws : List RW}
theorem VR.bo0 (hr : HR c) (hσ : ∀ (j : Nat) (x : RW), rws[j]? = some x → c.σ x.1 = some (.row x.2.1 x.2.2.1 x.2.2.2)) (hne : ∀ x ∈ rws, x.2.2.2 ≠ []) (hw : d.w = c.w) (hk : ∀ fr b, b < c.w.heap.size → c.ok fr b → d.ok false b)
    (hrow : ∀ (j : Nat) (x : RW) b, rws[j]? = some x → c.φ x.1 = some (some b) → d.ok false b) {id : Nat} {cs : List AV} (hc : cellsAt rws id = some cs) : ∃ b, c.φ id = some (some b) ∧ b < c.w.heap.size ∧ d.ok false b ∧ ((∃ vs e' f, c.w.heap[b]? = some (Obj.cells vs e' f)) → VRm d b 0 (odL cs)) := by
  obtain ⟨j, x, h1, rfl, rfl⟩ := cellsAt_mem hc
  rcases hr.row x.1 _ _ _ (hσ j x h1) with ⟨_, h2⟩ | ⟨b, vs, g1, g2, g3, g4, g5⟩
  · exact absurd h2.1 (hne x (List.mem_of_getElem? h1))
  · refine ⟨b, g1, g2.lt, hrow j x b h1 g1, fun hcl => VRm.od hw hk (VRm_iff.2 fun q a hq => ?_)⟩
    replace g2 := g2.cells hcl
    obtain ⟨u, k1, k2, k3⟩ := g5 q a hq
    exact ⟨u, by rw [Nat.zero_add]; simp [World.cell?, g2, k1], k2, k3⟩
mutual
theorem VR.bo (hr : HR c) (hσ : ∀ (j : Nat) (x : RW), rws[j]? = some x → c.σ x.1 = some (.row x.2.1 x.2.2.1 x.2.2.2)) (hne : ∀ x ∈ rws, x.2.2.2 ≠ []) (hw : d.w = c.w) (hk : ∀ fr b, b < c.w.heap.size → c.ok fr b → d.ok false b)
    (hrow : ∀ (j : Nat) (x : RW) b, rws[j]? = some x → c.φ x.1 = some (some b) → d.ok false b) : ∀ {a : AV} {u : Value}, VR c a u → VR d (bo rws a) u
  | .os id off n sz, u, k => by
    unfold Go.Proofs.YtonglhkiobibgaaGreatDoor.bo
    cases hc : cellsAt rws id with
    | none => trivial
    | some cs =>
      obtain ⟨b, g1, g2, g3, g4⟩ := VR.bo0 hr hσ hne hw hk hrow hc
      obtain ⟨A, k', rfl, hk', hm⟩ := k
      refine ⟨A, k', rfl, hk', fun h0 => ?_⟩
      rcases hm with ⟨_, h2⟩ | ⟨b', h1, rfl, cs9, e9, f9, h9, _⟩
      · omega
      · rw [g1] at h1; cases h1
        replace g4 := g4 ⟨_, _, _, h9⟩
        refine ⟨b, off, rfl, by rw [hw]; exact g2, g3, VRm_iff.2 fun q a hq => ?_⟩
        rw [odL_map, List.getElem?_map, Option.map_eq_some_iff] at hq
        obtain ⟨a', h8, rfl⟩ := hq
        rw [List.getElem?_take] at h8
        split at h8
        · rw [List.getElem?_drop] at h8
          have := VRm_iff.1 g4 (off + q) (od a') (by rw [odL_map, List.getElem?_map, h8]; rfl)
          rwa [Nat.zero_add] at this
        · cases h8
  | .op id off, u, k => by
    unfold Go.Proofs.YtonglhkiobibgaaGreatDoor.bo
    cases hc : cellsAt rws id with
    | none => trivial
    | some cs =>
      obtain ⟨b, g1, g2, g3, g4⟩ := VR.bo0 hr hσ hne hw hk hrow hc
      obtain ⟨b', h1, rfl, hcl⟩ := k
      rw [g1] at h1; cases h1
      exact ⟨b, 0, by rw [Nat.zero_add], by rw [hw]; exact g2, g3, g4 hcl⟩
  | .agg l, u, k => by obtain ⟨us, rfl, k⟩ := k; exact ⟨us, rfl, VRl.bo hr hσ hne hw hk hrow k⟩
  | .ifc t a, u, k => by obtain ⟨v, rfl, k⟩ := k; exact ⟨v, rfl, VR.bo hr hσ hne hw hk hrow (a := a) k⟩
  | .any, u, k => VR.od hw hk (a := .any) k
  | .v x, u, k => VR.od hw hk (a := .v x) k
  | .wv x, u, k => VR.od hw hk (a := .wv x) k
  | .ws x n, u, k => VR.od hw hk (a := .ws x n) k
  | .wp x, u, k => VR.od hw hk (a := .wp x) k
  | .mp x, u, k => VR.od hw hk (a := .mp x) k
  | .fs fr cs n, u, k => VR.od hw hk (a := .fs fr cs n) k
  | .fp fr cs n, u, k => VR.od hw hk (a := .fp fr cs n) k
  | .us fr e cs n, u, k => VR.od hw hk (a := .us fr e cs n) k
  | .tup l, u, k => VR.od hw hk (a := .tup l) k
  | .fn f l, u, k => by obtain ⟨us, rfl, k⟩ := k; exact ⟨us, rfl, VRt.bo hr hσ hne hw hk hrow k⟩
theorem VRl.bo (hr : HR c) (hσ : ∀ (j : Nat) (x : RW), rws[j]? = some x → c.σ x.1 = some (.row x.2.1 x.2.2.1 x.2.2.2)) (hne : ∀ x ∈ rws, x.2.2.2 ≠ []) (hw : d.w = c.w) (hk : ∀ fr b, b < c.w.heap.size → c.ok fr b → d.ok false b)
    (hrow : ∀ (j : Nat) (x : RW) b, rws[j]? = some x → c.φ x.1 = some (some b) → d.ok false b) : ∀ {cs : List AV} {us : List Value}, VRl c cs us → VRl d (boL rws cs) us
  | [], _, k => k
  | a :: r, us, k => by
    rw [VRl] at k
    rw [boL, VRl]
    obtain ⟨u, us', rfl, h1, h2, h3⟩ := k
    exact ⟨u, us', rfl, h1, VR.bo hr hσ hne hw hk hrow h2, VRl.bo hr hσ hne hw hk hrow h3⟩
theorem VRt.bo (hr : HR c) (hσ : ∀ (j : Nat) (x : RW), rws[j]? = some x → c.σ x.1 = some (.row x.2.1 x.2.2.1 x.2.2.2)) (hne : ∀ x ∈ rws, x.2.2.2 ≠ []) (hw : d.w = c.w) (hk : ∀ fr b, b < c.w.heap.size → c.ok fr b → d.ok false b)
    (hrow : ∀ (j : Nat) (x : RW) b, rws[j]? = some x → c.φ x.1 = some (some b) → d.ok false b) : ∀ {cs : List AV} {us : List Value}, VRt c cs us → VRt d (boL rws cs) us
  | [], _, k => k
  | a :: r, us, k => by
    rw [VRt] at k
    rw [boL, VRt]
    obtain ⟨u, us', rfl, h2, h3⟩ := k
    exact ⟨u, us', rfl, VR.bo hr hσ hne hw hk hrow h2, VRt.bo hr hσ hne hw hk hrow h3⟩
end
end
/-- the rows that a contract leaves -/
def newW (nb : Nat) (ws : List (Bool × Nat × List AV)) : List (Nat × Option AObj) := (ws.zipIdx nb).map fun x => (x.2, some (AObj.row x.1.1 x.1.2.1 x.1.2.2))
theorem ASound.borrow {f : FuncId} {args : List AV} {nb : Nat} {r : AV} (ws : List (Bool × Nat × List AV)) (rws : List RW) (h : ASound P f (boL rws args) nb (.ret r (newW nb ws))) (hne : ∀ x ∈ rws, x.2.2.2 ≠ []) (hfew : ws.length ≤ 100000)
    (hy : Yg (fun i => nb ≤ i ∧ i < nb + ws.length) r) (hyw : ∀ x ∈ ws, YgL (fun i => nb ≤ i ∧ i < nb + ws.length) x.2.2) : ASound P f args nb (rowsM rws (.ret r (newW nb ws))) := by
  refine ⟨h.1, fun c us r' R W' hrun hr hfr hv => ?_⟩
  obtain ⟨hσ, R', hrun2⟩ := rowsM_run hrun
  simp [AM.run] at hrun2
  obtain ⟨rfl, _, rfl⟩ := hrun2
  clear hrun
  obtain ⟨Yx, Yx_pos, Yx_neg⟩ := c.yx
  have Tlt : ∀ b, c.T b → b < c.w.heap.size := by
    rintro b ⟨i, ⟨y', e', cl⟩, e1, e2⟩
    rcases hr.row i y' e' cl e1 with ⟨g1, _⟩ | ⟨b', cs, g1, g2, _⟩
    · rw [e2] at g1; cases g1
    · rw [e2] at g1; cases g1; exact g2.lt
  generalize hc1 : (⟨c.w, c.w.heap.size, fun _ => none, fun _ => none, fun b => (c.T b ∧ ∀ (j : Nat) (x : RW), rws[j]? = some x → c.φ x.1 ≠ some (some b)) ∨ c.X b, Yx⟩ : Cx) = c1
  have w1 : c1.w = c.w := by rw [← hc1]
  have B1 : c1.B = c.w.heap.size := by rw [← hc1]
  have σ1 : c1.σ = fun _ => none := by rw [← hc1]
  have φ1 : c1.φ = fun _ => none := by rw [← hc1]
  have X1 : ∀ b, c1.X b ↔ ((c.T b ∧ ∀ (j : Nat) (x : RW), rws[j]? = some x → c.φ x.1 ≠ some (some b)) ∨ c.X b) := by rw [← hc1]; intro b; rfl
  have Y1 : c1.Y = Yx := by rw [← hc1]
  have T1 : ∀ b, ¬ c1.T b := by rintro b ⟨id, o, e1, _⟩; rw [σ1] at e1; cases e1
  have hx1 : ∀ b, c1.X b → b < c1.w.heap.size := by
    intro b hb
    rw [w1]
    rcases (X1 b).1 hb with h9 | h9
    · exact Tlt b h9.1
    · exact hr.xlt b h9
  have hr1 : HR c1 := ⟨fun id y e cells hs => (by rw [σ1] at hs; cases hs), fun id id' b e1 => (by rw [σ1] at e1; exact absurd rfl e1), (by rw [B1, w1]; exact Nat.le_refl _), hx1, hr.gl.to fun b _ h2 h3 => ⟨by rw [w1], T1 b, fun _ => by
      rw [Y1]
      by_cases hx : c.X b
      · rw [Yx_pos _ hx]; exact h3 hx
      · exact Yx_neg _ hx⟩⟩
  have hv1 : VRt c1 (boL rws args) us := by
    refine VRt.bo hr hσ hne w1 (fun fr b _ ho => ⟨fun h => (by cases h), T1 b, ?_⟩) (fun j x b h1 h2 => ⟨fun h => (by cases h), T1 b, ?_⟩) hv
    · rw [X1]; rintro (h9 | h9)
      · exact ho.2.1 h9.1
      · exact ho.2.2 h9
    · rw [X1]; rintro (h9 | h9)
      · exact h9.2 j x h1 h2
      · exact hr.TX ⟨x.1, _, hσ j x h1, h2⟩ h9
  have hk9 := h.2 c1 us r [] (newW nb ws) rfl hr1 (fun id _ => .inl (by rw [φ1])) hv1
  rw [w1] at hk9
  refine hk9.mono ?_
  rintro e w' ⟨v, d1, rfl, rfl, hv2, T2⟩
  have G := T2.grow
  have dσ1 : ∀ i, d1.σ i = if nb ≤ i then (match ws[i - nb]? with | some x => some (.row x.1 x.2.1 x.2.2) | none => none) else none := by
    intro i
    rw [T2.σ, σ1, newW, app_rows]
    cases ws[i - nb]? <;> rfl
  generalize hd : (⟨d1.w, c.B, fun i => if nb ≤ i ∧ i < nb + ws.length then d1.φ i else c.φ i, app c.σ (newW nb ws), c.X, c.Y⟩ : Cx) = d
  have dw : d.w = d1.w := by rw [← hd]
  have dB : d.B = c.B := by rw [← hd]
  have dX : d.X = c.X := by rw [← hd]
  have dY : d.Y = c.Y := by rw [← hd]
  have dφ : ∀ i, d.φ i = if nb ≤ i ∧ i < nb + ws.length then d1.φ i else c.φ i := by rw [← hd]; intro i; rfl
  have dσ : ∀ i, d.σ i = if nb ≤ i then (match ws[i - nb]? with | some x => some (.row x.1 x.2.1 x.2.2) | none => c.σ i) else c.σ i := by
    intro i
    rw [← hd]
    show app c.σ (newW nb ws) i = _
    rw [newW, app_rows]
    cases ws[i - nb]? <;> rfl
  have stay : ∀ b, b < c.w.heap.size → (c.X b → c.Y b = .no) → d.w.heap[b]? = c.w.heap[b]? := fun b hb hy => by
    rw [dw]
    have := G.stay b (by rw [w1]; exact hb) (T1 b) (fun _ => by
      rw [Y1]
      by_cases hx : c.X b
      · rw [Yx_pos _ hx]; exact hy hx
      · exact Yx_neg _ hx)
    rw [this, w1]
  have size : c.w.heap.size ≤ d.w.heap.size := by rw [dw, ← w1]; exact G.size
  have newT : ∀ b, d1.T b → c.w.heap.size ≤ b := fun b hb => by
    rcases G.held b hb with h9 | h9
    · exact absurd h9 (T1 b)
    · rw [← w1]; exact h9
  have names : Names c d := by
    intro i x hx
    rw [dφ]
    by_cases h1 : nb ≤ i ∧ i < nb + ws.length
    · rcases hfr i h1.1 with h2 | h2
      · rw [h2] at hx; cases hx
      · omega
    · rw [if_neg h1]; exact hx
  have dlive : ∀ i o, d.σ i = some o → (c.σ i = some o ∧ d.φ i = c.φ i ∧ ¬ (nb ≤ i ∧ i < nb + ws.length)) ∨ (nb ≤ i ∧ i < nb + ws.length ∧ d1.σ i = some o ∧ d.φ i = d1.φ i ∧ ∃ x ∈ ws, o = .row x.1 x.2.1 x.2.2) := by
    intro i o ho
    by_cases h1 : nb ≤ i ∧ i < nb + ws.length
    · right
      have h2 : i - nb < ws.length := by omega
      rw [dσ, if_pos h1.1, List.getElem?_eq_getElem h2] at ho
      exact ⟨h1.1, h1.2, by rw [dσ1, if_pos h1.1, List.getElem?_eq_getElem h2]; exact ho, by rw [dφ, if_pos h1], _, List.getElem_mem h2, by simp at ho; exact ho.symm⟩
    · left
      refine ⟨?_, by rw [dφ, if_neg h1], h1⟩
      rw [dσ] at ho
      by_cases h2 : nb ≤ i
      · rw [if_pos h2, List.getElem?_eq_none_iff.2 (by omega)] at ho; exact ho
      · rw [if_neg h2] at ho; exact ho
  have dT : ∀ b, d.T b → c.T b ∨ (c.w.heap.size ≤ b ∧ d1.T b) := by
    rintro b ⟨i, o, e1, e2⟩
    rcases dlive i o e1 with ⟨f1, f2, _⟩ | ⟨_, _, f3, f4, _⟩
    · exact .inl ⟨i, o, f1, by rw [← f2]; exact e2⟩
    · rw [f4] at e2
      exact .inr ⟨newT b ⟨i, o, f3, e2⟩, i, o, f3, e2⟩
  have grow : Grow c d := by
    refine ⟨dX, dB, ?_, ?_, ?_, size, fun b hb _ hy => stay b hb hy, fun b hb => (dT b hb).imp id (·.1), fun b cs e f hb => (by have := G.shape b cs e f (by rw [w1]; exact hb); rw [dw]; exact this), dY, fun b k sz h1 h2 h3 h4 h5 => (by
      have := G.wild b k sz (T1 b) (by rw [X1]; exact .inr h2) (by rw [Y1, Yx_pos _ h2]; exact h3) h4 (by rw [w1]; exact h5)
      rw [dw]; exact this)⟩
    · rw [dw, G.out, w1]
    · rw [dw, G.osE, w1]
    · rw [dw, G.tape, w1]
  have base := hr.base
  have ok2 : ∀ b, b < d1.w.heap.size → d1.ok true b → d.ok true b := fun b _ ho => by
    have hge : c.w.heap.size ≤ b := by have := ho.1 rfl; rw [G.B, B1] at this; exact this
    refine ⟨fun _ => by rw [dB]; omega, fun ht => ?_, fun hx => ?_⟩
    · rcases dT b ht with h9 | h9
      · have := Tlt b h9; omega
      · exact ho.2.1 h9.2
    · rw [dX] at hx; have := hr.xlt b hx; omega
  have nm2 : ∀ i x, (nb ≤ i ∧ i < nb + ws.length) → d1.φ i = some x → d.φ i = some x := fun i x h1 h2 => by rw [dφ, if_pos h1]; exact h2
  have hrd : HR d := by
    refine ⟨fun i y2 e2 cl hs => ?_, fun i i' b e1 e2 e3 e4 => ?_, by rw [dB]; exact Nat.le_trans hr.base size, fun b hb => by rw [dX] at hb; exact Nat.lt_of_lt_of_le (hr.xlt b hb) size, hr.gl.grow grow⟩
    · rcases dlive i _ hs with ⟨f1, f2, _⟩ | ⟨h1, h2, f3, f4, x, hx, f5⟩
      · rcases hr.row i y2 e2 cl f1 with ⟨g1, g2⟩ | ⟨b, cs, g1, g2, g3', g4, g5⟩
        · exact .inl ⟨by rw [f2]; exact g1, g2⟩
        · refine .inr ⟨b, cs, by rw [f2]; exact g1, g2.of (stay b g2.lt (fun h9 => absurd h9 g3'.2)), ⟨by rw [dB]; exact g3'.1, by rw [dX]; exact g3'.2⟩, g4, fun j x hj => ?_⟩
          obtain ⟨q, k1, k2, k3⟩ := g5 j x hj
          exact ⟨q, k1, k2, k3.mono grow names⟩
      · cases f5
        rcases T2.hr.row i _ _ _ f3 with ⟨g1, g2⟩ | ⟨b, cs, g1, g2, g3', g4, g5⟩
        · exact .inl ⟨by rw [f4]; exact g1, g2⟩
        · have hge := newT b ⟨i, _, f3, g1⟩
          refine .inr ⟨b, cs, by rw [f4]; exact g1, by rw [dw]; exact g2, ⟨fun _ => by rw [dB]; omega, fun hx2 => by rw [dX] at hx2; have := hr.xlt b hx2; omega⟩, g4, fun j x' hj => ?_⟩
          obtain ⟨q, m1, m2, m3⟩ := g5 j x' hj
          exact ⟨q, m1, m2, VR.yg dw ok2 nm2 (YgL_iff.1 (hyw x hx) x' (List.mem_of_getElem? hj)) m3⟩
    · obtain ⟨o1, ho1⟩ := Option.ne_none_iff_exists'.1 e1
      obtain ⟨o2, ho2⟩ := Option.ne_none_iff_exists'.1 e2
      rcases dlive i o1 ho1 with ⟨f1, f2, _⟩ | ⟨_, _, f3, f4, _⟩ <;> rcases dlive i' o2 ho2 with ⟨j1, j2, _⟩ | ⟨_, _, j3, j4, _⟩
      · exact hr.inj i i' b (by rw [f1]; simp) (by rw [j1]; simp) (by rw [← f2]; exact e3) (by rw [← j2]; exact e4)
      · rw [j4] at e4
        have := newT b ⟨i', _, j3, e4⟩
        have := Tlt b ⟨i, _, f1, by rw [← f2]; exact e3⟩
        omega
      · rw [f4] at e3
        have := newT b ⟨i, _, f3, e3⟩
        have := Tlt b ⟨i', _, j1, by rw [← j2]; exact e4⟩
        omega
      · rw [f4] at e3
        rw [j4] at e4
        exact T2.hr.inj i i' b (by rw [f3]; simp) (by rw [j3]; simp) e3 e4
  exact ⟨v, d, rfl, dw, VR.yg dw ok2 nm2 hy hv2, grow, names, hrd, by rw [← hd], fun i hi => by
    rw [dφ] at hi
    by_cases h1 : nb ≤ i ∧ i < nb + ws.length
    · exact .inr (by omega)
    · rw [if_neg h1] at hi; exact .inl hi⟩
end Go.Proofs.YtonglhkiobibgaaGreatDoor
namespace Go.Proofs.YtonglhkiobibgaaGreatDoor
open Go.RowKit
set_option maxRecDepth 100000
theorem recE_kind {r : Rec} (h : r.kind < 0 ∨ 255 < r.kind) : recE r = 22 := by unfold recE; rw [if_pos h]
theorem recE_many {r : Rec} (h : ¬ (r.kind < 0 ∨ 255 < r.kind)) (h2 : 64 < r.nums.length ∨ 64 < r.texts.length) : recE r = 3 := by unfold recE; rw [if_neg h, if_pos h2]
theorem recE_long {r : Rec} (h : ¬ (r.kind < 0 ∨ 255 < r.kind)) (h2 : ¬ (64 < r.nums.length ∨ 64 < r.texts.length)) {i : Nat} {t : List Int} (ht : r.texts[i]? = some t) (hl : 4096 < t.length) : recE r = 5 := by
  unfold recE; rw [if_neg h, if_neg h2, if_pos ⟨t, List.mem_of_getElem? ht, hl⟩]
theorem recE_ok {r : Rec} (h : ¬ (r.kind < 0 ∨ 255 < r.kind)) (h2 : ¬ (64 < r.nums.length ∨ 64 < r.texts.length)) (h3 : ∀ t ∈ r.texts, ¬ 4096 < t.length) : recE r = 0 := by
  unfold recE; rw [if_neg h, if_neg h2, if_neg (by rintro ⟨t, ht, hl⟩; exact h3 t ht hl)]
theorem take_all {α : Type} {p : α → Prop} {l : List α} {k : Nat} {x : α} (h : ∀ t ∈ l.take k, p t) (hx : l[k]? = some x) (hp : p x) : ∀ t ∈ l.take (k + 1), p t := by
  intro t ht
  rw [take_snoc hx] at ht
  rcases List.mem_append.1 ht with h1 | h1
  · exact h t h1
  · simp at h1; subst h1; exact hp
abbrev L_chk (fr : Bool) (r : Rec) (i : Nat) : ASt := ⟨envOf [(24, fL fr r.texts), (25, .v (.int .i64 r.texts.length)), (26, .v (.int .i64 i))], heapOf [], 0⟩
theorem check_spec (fr : Bool) (r : Rec) (nb : Nat) : ASound Tryz.prog 148 [aRec fr r] nb (.ret (.v (.int .i64 (recE r))) []) := by
  refine ok_148.sound (by simp) ⟨al_aRec r, trivial⟩ ?_
  by_cases h1 : r.kind < 0
  · rw [recE_kind (.inl h1)]
    simp only [ac_148, h1, TT, ↓reduceIte, Nat.reduceEqDiff, Nat.reduceAdd, Nat.reduceMul, reduceCtorEq, Nat.reduceLeDiff]
    exact Ends.data (.inr rfl) (by simp [ET]) trivial
  by_cases h2 : 255 < r.kind
  · rw [recE_kind (.inr h2)]
    simp only [ac_148, h1, h2, TT, ↓reduceIte, Nat.reduceEqDiff, Nat.reduceAdd, Nat.reduceMul, reduceCtorEq, Nat.reduceLeDiff]
    exact Ends.data (.inr rfl) (by simp [ET]) trivial
  have h12 : ¬ (r.kind < 0 ∨ 255 < r.kind) := by omega
  by_cases h3 : 64 < r.nums.length
  · rw [recE_many h12 (.inl h3)]
    have e3 : (64 : Int) < (r.nums.length : Int) := by omega
    simp only [ac_148, h1, h2, e3, TT, ↓reduceIte, Nat.reduceEqDiff, Nat.reduceAdd, Nat.reduceMul, reduceCtorEq, Nat.reduceLeDiff]
    exact Ends.data (.inr rfl) (by simp [ET]) trivial
  have e3 : ¬ (64 : Int) < (r.nums.length : Int) := by omega
  by_cases h4 : 64 < r.texts.length
  · rw [recE_many h12 (.inr h4)]
    have e4 : (64 : Int) < (r.texts.length : Int) := by omega
    simp only [ac_148, h1, h2, e3, e4, TT, ↓reduceIte, Nat.reduceEqDiff, Nat.reduceAdd, Nat.reduceMul, reduceCtorEq, Nat.reduceLeDiff]
    exact Ends.data (.inr rfl) (by simp [ET]) trivial
  have e4 : ¬ (64 : Int) < (r.texts.length : Int) := by omega
  have h34 : ¬ (64 < r.nums.length ∨ 64 < r.texts.length) := by omega
  simp only [ac_148, h1, h2, e3, e4, TT, ↓reduceIte, Nat.reduceEqDiff, Nat.reduceAdd, Nat.reduceMul, reduceCtorEq, Nat.reduceLeDiff]
  refine AWc.family (L_chk fr r) (fun i => i ≤ r.texts.length ∧ ∀ t ∈ r.texts.take i, ¬ 4096 < t.length) (fun i => r.texts.length - i) 0 ⟨Nat.zero_le _, by simp⟩ ?_ ?_
  · refine Weak.calc [] (by decide) ?_ ?_ <;> simp [WT]
  · rintro i ⟨hi, ha⟩
    by_cases hlt : i < r.texts.length
    · obtain ⟨t, ht, e1, e0⟩ := lt_at hlt
      by_cases hl : 4096 < t.length
      · have e5 : (4096 : Int) < (t.length : Int) := by omega
        rw [recE_long h12 h34 ht hl]
        simp only [L_chk, e1, e0, get_L ht, e5, TT, ↓reduceIte, Nat.reduceEqDiff, Nat.reduceAdd, Nat.reduceMul, reduceCtorEq, Nat.reduceLeDiff]
        exact Ends.data (.inr rfl) (by simp [ET]) trivial
      · have e5 : ¬ (4096 : Int) < (t.length : Int) := by omega
        simp only [L_chk, e1, e0, get_L ht, e5, TT, ↓reduceIte, Nat.reduceEqDiff, Nat.reduceAdd, Nat.reduceMul, reduceCtorEq, Nat.reduceLeDiff]
        refine famC_next (i + 1) (by omega) ⟨by omega, take_all ha ht hl⟩ ?_
        refine Weak.calc [] (by decide) ?_ ?_ <;> simp [WT, wrap64 (x := (i : Int) + 1) (by omega)]
    · obtain rfl : i = r.texts.length := by omega
      have e1 : ¬ ((r.texts.length : Int) < (r.texts.length : Int)) := by omega
      rw [List.take_length] at ha
      rw [recE_ok h12 h34 ha]
      simp only [L_chk, e1, TT, ↓reduceIte, Nat.reduceEqDiff, Nat.reduceAdd, Nat.reduceMul, reduceCtorEq, Nat.reduceLeDiff]
      exact Ends.data (.inr rfl) (by simp [ET]) trivial
end Go.Proofs.YtonglhkiobibgaaGreatDoor
namespace Go.Proofs.YtonglhkiobibgaaGreatDoor
open Go.RowKit
set_option maxRecDepth 100000
theorem od_B (l : List Int) : odL (eB l) = eB l := by
  rw [odL_map, eB, List.map_map]; rfl
theorem yg_B {S : Nat → Prop} (l : List Int) : YgL S (eB l) := by
  rw [YgL_iff]; intro a ha
  obtain ⟨x, _, rfl⟩ := List.mem_map.1 ha
  trivial
theorem yg_fB {S : Nat → Prop} (l : List Int) : Yg S (fB true l) := ⟨rfl, yg_B l⟩
/-- a pure contract of octets, used with a held row -/
theorem ASound.borrowB {f : FuncId} {l : List Int} {r : AV} {id nb e : Nat} {y : Bool} (h : ASound Tryz.prog f [fB false l] nb (.ret r [])) (hne : l ≠ []) (hy : Yg (fun i => nb ≤ i ∧ i < nb + 0) r) :
    ASound Tryz.prog f [.os id 0 l.length 1] nb (rowsM [(id, y, e, eB l)] (.ret r [])) := by
  refine ASound.borrow [] [(id, y, e, eB l)] ?_ ?_ (by simp) hy (by simp)
  · have : boL [(id, y, e, eB l)] [.os id 0 l.length 1] = [fB false l] := by
      simp [boL, bo, cellsAt, od_B, tk_B, fB]
    rw [this]; exact h
  · intro x hx
    simp at hx; subst hx
    simp [eB, hne]
def numB (ns : List Int) : List Int := ns.flatMap fun n => gp (zz n)
def txtB (ts : List (List Int)) : List Int := ts.flatMap encT
theorem numB_snoc {ns : List Int} {k : Nat} {n : Int} (h : ns[k]? = some n) : numB (ns.take (k + 1)) = numB (ns.take k) ++ gp (zz n) := by rw [take_snoc h]; simp [numB]
theorem txtB_snoc {ts : List (List Int)} {k : Nat} {t : List Int} (h : ts[k]? = some t) : txtB (ts.take (k + 1)) = txtB (ts.take k) ++ (gp t.length ++ t) := by rw [take_snoc h]; simp [txtB, encT]
theorem flat_le {α : Type} {e : α → List Int} {m : Nat} : ∀ {l : List α}, (∀ x ∈ l, (e x).length ≤ m) → (l.flatMap e).length ≤ m * l.length
  | [], _ => by simp
  | x :: l, h => by
    have h1 := h x (by simp)
    have h2 := flat_le (l := l) fun y hy => h y (by simp [hy])
    rw [List.flatMap_cons, List.length_append, List.length_cons, Nat.mul_add]
    omega
theorem numB_le {ns : List Int} (h : ∀ n ∈ ns, i64ok n) : (numB ns).length ≤ 10 * ns.length := flat_le fun n hn => gp_le (zz_lt (h n hn))
theorem txtB_le {ts : List (List Int)} (h : ∀ t ∈ ts, ¬ 4096 < t.length) : (txtB ts).length ≤ 4106 * ts.length := flat_le fun t ht => by
  have h1 := h t ht
  have h2 := gp_le (m := t.length) (by omega)
  rw [encT, List.length_append]; omega
/-- what is written before the number i -/
def h1 (r : Rec) (i : Nat) : List Int := [r.kind, (r.nums.length : Int)] ++ numB (r.nums.take i)
/-- what is written before the text i -/
def h2 (r : Rec) (i : Nat) : List Int := h1 r r.nums.length ++ [(r.texts.length : Int)] ++ txtB (r.texts.take i)
theorem h1_0 (r : Rec) : h1 r 0 = [r.kind, (r.nums.length : Int)] := by simp [h1, numB]
theorem h1_s {r : Rec} {k : Nat} {n : Int} (h : r.nums[k]? = some n) : h1 r k ++ gp (zz n) = h1 r (k + 1) := by rw [h1, h1, numB_snoc h, List.append_assoc]
theorem h2_0 (r : Rec) : h1 r r.nums.length ++ [(r.texts.length : Int)] = h2 r 0 := by simp [h2, txtB]
theorem h2_s {r : Rec} {k : Nat} {t : List Int} (h : r.texts[k]? = some t) : h2 r k ++ gp t.length ++ t = h2 r (k + 1) := by rw [h2, h2, txtB_snoc h]; simp
theorem h2_all (r : Rec) : h2 r r.texts.length = encR r := by simp [h2, h1, encR, numB, txtB]
theorem h1_ne (r : Rec) (i : Nat) : h1 r i ≠ [] := by simp [h1]
theorem h2_ne (r : Rec) (i : Nat) : h2 r i ≠ [] := by simp [h2, h1]
structure okR (r : Rec) : Prop where
  kind : ¬ (r.kind < 0 ∨ 255 < r.kind)
  many : ¬ (64 < r.nums.length ∨ 64 < r.texts.length)
  short : ∀ t ∈ r.texts, ¬ 4096 < t.length
theorem okR_iff (r : Rec) : recE r = 0 ↔ okR r := by
  unfold recE
  constructor
  · intro h
    split at h
    · simp at h
    · rename_i a
      split at h
      · simp at h
      · rename_i b
        split at h
        · simp at h
        · rename_i c
          exact ⟨a, b, fun t ht hl => c ⟨t, ht, hl⟩⟩
  · rintro ⟨a, b, c⟩
    rw [if_neg a, if_neg b, if_neg (by rintro ⟨t, ht, hl⟩; exact c t ht hl)]
theorem h1_le {r : Rec} (hr : okR r) (hn : ∀ n ∈ r.nums, i64ok n) (i : Nat) : (h1 r i).length ≤ 642 := by
  have := numB_le (ns := r.nums.take i) fun n h => hn n (List.mem_of_mem_take h)
  have h3 := hr.many
  rw [List.length_take] at this
  rw [h1, List.length_append]; simp only [List.length_cons, List.length_nil]; omega
theorem h2_le {r : Rec} (hr : okR r) (hn : ∀ n ∈ r.nums, i64ok n) (i : Nat) : (h2 r i).length ≤ 300000 := by
  have a := h1_le hr hn r.nums.length
  have b := txtB_le (ts := r.texts.take i) fun t h => hr.short t (List.mem_of_mem_take h)
  have h3 := hr.many
  rw [List.length_take] at b
  rw [h2, List.length_append, List.length_append]; simp only [List.length_cons, List.length_nil]; omega
end Go.Proofs.YtonglhkiobibgaaGreatDoor
namespace Go.Proofs.YtonglhkiobibgaaGreatDoor
open Go.RowKit
set_option maxRecDepth 100000
abbrev rowR (fr : Bool) (r : Rec) : List AV := [.v (.int .i64 r.kind), fI fr r.nums, fL fr r.texts]
abbrev L_en1 (fr : Bool) (r : Rec) (i : Nat) : ASt := ⟨envOf [(1, .op 0 0), (5, .os 1 0 (h1 r i).length 1), (24, fI fr r.nums), (25, .v (.int .i64 r.nums.length)), (26, .v (.int .i64 i))], heapOf [(0, .row true 154 (rowR fr r)), (1, .row true 5 (eB (h1 r i)))], 2⟩
abbrev L_en2 (fr : Bool) (r : Rec) (i : Nat) : ASt := ⟨envOf [(5, .os 0 0 (h2 r i).length 1), (47, fL fr r.texts), (48, .v (.int .i64 r.texts.length)), (49, .v (.int .i64 i))], heapOf [(0, .row true 5 (eB (h2 r i)))], 1⟩
set_option maxHeartbeats 2000000 in
theorem encode_spec (fr : Bool) (r : Rec) (nb : Nat) (hn : ∀ n ∈ r.nums, i64ok n) : ASound Tryz.prog 96 [aRec fr r] nb (.ret (.tup [fB true (encode r).1, .v (.int .i64 (encode r).2)]) []) := by
  refine ok_96.sound (by simp) ⟨al_aRec r, trivial⟩ ?_
  have hc := check_spec fr r
  simp only [aRec, fI, fL] at hc
  simp only [ac_96, TT, ↓reduceIte, Nat.reduceEqDiff, Nat.reduceAdd, Nat.reduceMul, reduceCtorEq, Nat.reduceLeDiff]
  refine ⟨_, hc _, ?_⟩
  simp only [TT, ↓reduceIte, Nat.reduceEqDiff, Nat.reduceAdd, Nat.reduceMul, reduceCtorEq, Nat.reduceLeDiff]
  by_cases hE : recE r = 0
  · have hr := (okR_iff r).1 hE
    have k1 := hr.kind
    have k2 := hr.many
    have w1 : IntKind.u8.wrap r.kind = r.kind := by rw [u8_wrap]; omega
    have w2 : IntKind.u8.wrap (r.nums.length : Int) = r.nums.length := by rw [u8_wrap]; omega
    have w3 : IntKind.u8.wrap (r.texts.length : Int) = r.texts.length := by rw [u8_wrap]; omega
    have he : encode r = (sealB (encR r), 0) := by rw [encode, if_pos hE]
    rw [he]
    simp only [hE, w1, w2, w3, TT, ↓reduceIte, Nat.reduceEqDiff, Nat.reduceAdd, Nat.reduceMul, reduceCtorEq, Nat.reduceLeDiff]
    refine AWc.family (L_en1 fr r) (fun i => i ≤ r.nums.length) (fun i => r.nums.length - i) 0 (Nat.zero_le _) ?_ ?_
    · refine Weak.calc [(0, 0), (1500000, 1)] (by decide) ?_ ?_ <;> simp [WT, h1_0, eB]
    · intro i hi
      by_cases hlt : i < r.nums.length
      · obtain ⟨n, hx, e1, e0⟩ := lt_at hlt
        have hno := hn n (List.mem_of_getElem? hx)
        have hle := h1_le hr hn i
        have s1 : shVal .shl .i64 n 1 = some (.int .i64 (IntKind.i64.wrap (n * 2 ^ min (Int.toNat 1) IntKind.i64.bits))) := by simp only [shVal, if_neg (show ¬ ((1 : Int) < 0) by decide)]
        have s2 : shVal .shr .i64 n 63 = some (.int .i64 (n.fdiv (2 ^ min (Int.toNat 63) IntKind.i64.bits))) := by simp only [shVal, if_neg (show ¬ ((63 : Int) < 0) by decide)]
        simp only [L_en1, e1, e0, get_I hx, s1, s2, zz_prog hno, TT, ↓reduceIte, Nat.reduceEqDiff, Nat.reduceAdd, Nat.reduceMul, reduceCtorEq, Nat.reduceLeDiff]
        refine ⟨_, groups_spec true (h1 r i) (zz n) _ _ (by omega) (h1_ne r i) (by omega) (zz_lt hno), ?_⟩
        rw [h1_s hx]
        simp only [TT, ↓reduceIte, Nat.reduceEqDiff, Nat.reduceAdd, Nat.reduceMul, reduceCtorEq, Nat.reduceLeDiff]
        refine famC_next (i + 1) (by omega) (by omega) ?_
        refine Weak.calc [(0, 0), (1100002, 1)] (by decide) ?_ ?_ <;> simp [WT, wrap64 (x := (i : Int) + 1) (by omega)]
      · obtain rfl : i = r.nums.length := by omega
        have e1 : ¬ ((r.nums.length : Int) < (r.nums.length : Int)) := by omega
        have hle := h1_le hr hn r.nums.length
        simp only [L_en1, e1, len_B, w3, TT, ↓reduceIte, Nat.reduceEqDiff, Nat.reduceAdd, Nat.reduceMul, reduceCtorEq, Nat.reduceLeDiff]
        rw [if_pos (by omega)]
        have hcc : eB (h1 r r.nums.length) ++ [AV.v (.int .u8 (r.texts.length : Int))] = eB (h2 r 0) := by rw [← one_B, ← app_B, h2_0]
        rw [hcc]
        have hlen : (h1 r r.nums.length).length + 1 = (h2 r 0).length := by rw [← h2_0, List.length_append]; rfl
        rw [hlen]
        refine AWc.family (L_en2 fr r) (fun i => i ≤ r.texts.length) (fun i => r.texts.length - i) 0 (Nat.zero_le _) ?_ ?_
        · refine Weak.calc [(700002, 0)] (by decide) ?_ ?_ <;> simp [WT]
        · intro i hi
          by_cases hlt : i < r.texts.length
          · obtain ⟨t, hx, e1, e0⟩ := lt_at hlt
            have hts := hr.short t (List.mem_of_getElem? hx)
            have hle := h2_le hr hn i
            have hl2 := h2_le hr hn (i + 1)
            have w4 : IntKind.u64.wrap (t.length : Int) = t.length := by rw [u64_mod]; omega
            simp only [L_en2, e1, e0, get_L hx, w4, TT, ↓reduceIte, Nat.reduceEqDiff, Nat.reduceAdd, Nat.reduceMul, reduceCtorEq, Nat.reduceLeDiff]
            refine ⟨_, groups_spec true (h2 r i) t.length _ _ (by omega) (h2_ne r i) (by omega) (by omega), ?_⟩
            have hls : (h2 r i ++ gp t.length).length + t.length = (h2 r (i + 1)).length := by rw [← h2_s hx]; exact (show (h2 r i ++ gp t.length ++ t).length = _ from List.length_append).symm
            have hcs : eB (h2 r i ++ gp t.length) ++ eB t = eB (h2 r (i + 1)) := by rw [← app_B, h2_s hx]
            simp only [len_B, hls, hcs, TT, ↓reduceIte, Nat.reduceEqDiff, Nat.reduceAdd, Nat.reduceMul, reduceCtorEq, Nat.reduceLeDiff]
            rw [if_pos (by omega)]
            refine famC_next (i + 1) (by omega) (by omega) ?_
            refine Weak.calc [(1000001, 0)] (by decide) ?_ ?_ <;> simp [WT, wrap64 (x := (i : Int) + 1) (by omega)]
          · obtain rfl : i = r.texts.length := by omega
            have e1 : ¬ ((r.texts.length : Int) < (r.texts.length : Int)) := by omega
            have hle := h2_le hr hn r.texts.length
            simp only [L_en2, e1, TT, ↓reduceIte, Nat.reduceEqDiff, Nat.reduceAdd, Nat.reduceMul, reduceCtorEq, Nat.reduceLeDiff]
            refine ⟨_, ASound.borrowB (e := 5) (y := true) (seal_spec false (h2 r r.texts.length) _ (by omega)) (h2_ne r _) (yg_fB _), ?_⟩
            rw [h2_all]
            simp only [TT, ↓reduceIte, Nat.reduceEqDiff, Nat.reduceAdd, Nat.reduceMul, reduceCtorEq, Nat.reduceLeDiff]
            exact Ends.data (.inr rfl) (by simp [ET]) ⟨al_B _, trivial, trivial⟩
  · have he : encode r = ([], recE r) := by rw [encode, if_neg hE]
    rw [he]
    simp only [hE, TT, ↓reduceIte, Nat.reduceEqDiff, Nat.reduceAdd, Nat.reduceMul, reduceCtorEq, Nat.reduceLeDiff]
    exact Ends.imp (r0 := .tup [.v (.slice none 0 0), .v (.int .i64 (recE r))]) (.inr rfl) (by simp [ET]) ⟨trivial, trivial, trivial⟩ (imp_nilE _)
end Go.Proofs.YtonglhkiobibgaaGreatDoor
namespace Go.Proofs.YtonglhkiobibgaaGreatDoor
open Go.RowKit
set_option maxRecDepth 100000
end Go.Proofs.YtonglhkiobibgaaGreatDoor
namespace Go.Proofs.YtonglhkiobibgaaGreatDoor
open Go.RowKit
set_option maxRecDepth 100000
end Go.Proofs.YtonglhkiobibgaaGreatDoor
namespace Go.Proofs.YtonglhkiobibgaaGreatDoor
open Go.RowKit
end Go.Proofs.YtonglhkiobibgaaGreatDoor
namespace Go.Proofs.YtonglhkiobibgaaGreatDoor
open Go.RowKit
set_option maxRecDepth 100000
end Go.Proofs.YtonglhkiobibgaaGreatDoor
namespace Go.Proofs.YtonglhkiobibgaaGreatDoor
open Go.RowKit
set_option maxRecDepth 100000
theorem od_fB (fr : Bool) (l : List Int) : od (fB fr l) = fB false l := by simp [fB, od, od_B]
end Go.Proofs.YtonglhkiobibgaaGreatDoor
namespace Go.Proofs.YtonglhkiobibgaaGreatDoor
open Go.RowKit
variable {P : Program} {c d : Cx} {rws : List RW}
theorem ASound.borrowG {f : FuncId} {args args' : List AV} {nb : Nat} {r : AV} (ws : List (Bool × Nat × List AV)) (rws : List RW)
    (H : ∀ (c d : Cx), HR c → (∀ (j : Nat) (x : RW), rws[j]? = some x → c.σ x.1 = some (.row x.2.1 x.2.2.1 x.2.2.2)) → d.w = c.w → (∀ fr b, b < c.w.heap.size → c.ok fr b → d.ok false b) → (∀ (j : Nat) (x : RW) b, rws[j]? = some x → c.φ x.1 = some (some b) → d.ok false b) → ∀ us, VRt c args us → VRt d args' us)
    (h : ASound P f args' nb (.ret r (newW nb ws))) (hfew : ws.length ≤ 100000)
    (hy : Yg (fun i => nb ≤ i ∧ i < nb + ws.length) r) (hyw : ∀ x ∈ ws, YgL (fun i => nb ≤ i ∧ i < nb + ws.length) x.2.2) : ASound P f args nb (rowsM rws (.ret r (newW nb ws))) := by
  refine ⟨h.1, fun c us r' R W' hrun hr hfr hv => ?_⟩
  obtain ⟨hσ, R', hrun2⟩ := rowsM_run hrun
  simp [AM.run] at hrun2
  obtain ⟨rfl, _, rfl⟩ := hrun2
  clear hrun
  obtain ⟨Yx, Yx_pos, Yx_neg⟩ := c.yx
  have Tlt : ∀ b, c.T b → b < c.w.heap.size := by
    rintro b ⟨i, ⟨y', e', cl⟩, e1, e2⟩
    rcases hr.row i y' e' cl e1 with ⟨g1, _⟩ | ⟨b', cs, g1, g2, _⟩
    · rw [e2] at g1; cases g1
    · rw [e2] at g1; cases g1; exact g2.lt
  generalize hc1 : (⟨c.w, c.w.heap.size, fun _ => none, fun _ => none, fun b => (c.T b ∧ ∀ (j : Nat) (x : RW), rws[j]? = some x → c.φ x.1 ≠ some (some b)) ∨ c.X b, Yx⟩ : Cx) = c1
  have w1 : c1.w = c.w := by rw [← hc1]
  have B1 : c1.B = c.w.heap.size := by rw [← hc1]
  have σ1 : c1.σ = fun _ => none := by rw [← hc1]
  have φ1 : c1.φ = fun _ => none := by rw [← hc1]
  have X1 : ∀ b, c1.X b ↔ ((c.T b ∧ ∀ (j : Nat) (x : RW), rws[j]? = some x → c.φ x.1 ≠ some (some b)) ∨ c.X b) := by rw [← hc1]; intro b; rfl
  have Y1 : c1.Y = Yx := by rw [← hc1]
  have T1 : ∀ b, ¬ c1.T b := by rintro b ⟨id, o, e1, _⟩; rw [σ1] at e1; cases e1
  have hx1 : ∀ b, c1.X b → b < c1.w.heap.size := by
    intro b hb
    rw [w1]
    rcases (X1 b).1 hb with h9 | h9
    · exact Tlt b h9.1
    · exact hr.xlt b h9
  have hr1 : HR c1 := ⟨fun id y e cells hs => (by rw [σ1] at hs; cases hs), fun id id' b e1 => (by rw [σ1] at e1; exact absurd rfl e1), (by rw [B1, w1]; exact Nat.le_refl _), hx1, hr.gl.to fun b _ h2 h3 => ⟨by rw [w1], T1 b, fun _ => by
      rw [Y1]
      by_cases hx : c.X b
      · rw [Yx_pos _ hx]; exact h3 hx
      · exact Yx_neg _ hx⟩⟩
  have hv1 : VRt c1 args' us := by
    refine H c c1 hr hσ w1 (fun fr b _ ho => ⟨fun h => (by cases h), T1 b, ?_⟩) (fun j x b h1 h2 => ⟨fun h => (by cases h), T1 b, ?_⟩) us hv
    · rw [X1]; rintro (h9 | h9)
      · exact ho.2.1 h9.1
      · exact ho.2.2 h9
    · rw [X1]; rintro (h9 | h9)
      · exact h9.2 j x h1 h2
      · exact hr.TX ⟨x.1, _, hσ j x h1, h2⟩ h9
  have hk9 := h.2 c1 us r [] (newW nb ws) rfl hr1 (fun id _ => .inl (by rw [φ1])) hv1
  rw [w1] at hk9
  refine hk9.mono ?_
  rintro e w' ⟨v, d1, rfl, rfl, hv2, T2⟩
  have G := T2.grow
  have dσ1 : ∀ i, d1.σ i = if nb ≤ i then (match ws[i - nb]? with | some x => some (.row x.1 x.2.1 x.2.2) | none => none) else none := by
    intro i
    rw [T2.σ, σ1, newW, app_rows]
    cases ws[i - nb]? <;> rfl
  generalize hd : (⟨d1.w, c.B, fun i => if nb ≤ i ∧ i < nb + ws.length then d1.φ i else c.φ i, app c.σ (newW nb ws), c.X, c.Y⟩ : Cx) = d
  have dw : d.w = d1.w := by rw [← hd]
  have dB : d.B = c.B := by rw [← hd]
  have dX : d.X = c.X := by rw [← hd]
  have dY : d.Y = c.Y := by rw [← hd]
  have dφ : ∀ i, d.φ i = if nb ≤ i ∧ i < nb + ws.length then d1.φ i else c.φ i := by rw [← hd]; intro i; rfl
  have dσ : ∀ i, d.σ i = if nb ≤ i then (match ws[i - nb]? with | some x => some (.row x.1 x.2.1 x.2.2) | none => c.σ i) else c.σ i := by
    intro i
    rw [← hd]
    show app c.σ (newW nb ws) i = _
    rw [newW, app_rows]
    cases ws[i - nb]? <;> rfl
  have stay : ∀ b, b < c.w.heap.size → (c.X b → c.Y b = .no) → d.w.heap[b]? = c.w.heap[b]? := fun b hb hy => by
    rw [dw]
    have := G.stay b (by rw [w1]; exact hb) (T1 b) (fun _ => by
      rw [Y1]
      by_cases hx : c.X b
      · rw [Yx_pos _ hx]; exact hy hx
      · exact Yx_neg _ hx)
    rw [this, w1]
  have size : c.w.heap.size ≤ d.w.heap.size := by rw [dw, ← w1]; exact G.size
  have newT : ∀ b, d1.T b → c.w.heap.size ≤ b := fun b hb => by
    rcases G.held b hb with h9 | h9
    · exact absurd h9 (T1 b)
    · rw [← w1]; exact h9
  have names : Names c d := by
    intro i x hx
    rw [dφ]
    by_cases h1 : nb ≤ i ∧ i < nb + ws.length
    · rcases hfr i h1.1 with h2 | h2
      · rw [h2] at hx; cases hx
      · omega
    · rw [if_neg h1]; exact hx
  have dlive : ∀ i o, d.σ i = some o → (c.σ i = some o ∧ d.φ i = c.φ i ∧ ¬ (nb ≤ i ∧ i < nb + ws.length)) ∨ (nb ≤ i ∧ i < nb + ws.length ∧ d1.σ i = some o ∧ d.φ i = d1.φ i ∧ ∃ x ∈ ws, o = .row x.1 x.2.1 x.2.2) := by
    intro i o ho
    by_cases h1 : nb ≤ i ∧ i < nb + ws.length
    · right
      have h2 : i - nb < ws.length := by omega
      rw [dσ, if_pos h1.1, List.getElem?_eq_getElem h2] at ho
      exact ⟨h1.1, h1.2, by rw [dσ1, if_pos h1.1, List.getElem?_eq_getElem h2]; exact ho, by rw [dφ, if_pos h1], _, List.getElem_mem h2, by simp at ho; exact ho.symm⟩
    · left
      refine ⟨?_, by rw [dφ, if_neg h1], h1⟩
      rw [dσ] at ho
      by_cases h2 : nb ≤ i
      · rw [if_pos h2, List.getElem?_eq_none_iff.2 (by omega)] at ho; exact ho
      · rw [if_neg h2] at ho; exact ho
  have dT : ∀ b, d.T b → c.T b ∨ (c.w.heap.size ≤ b ∧ d1.T b) := by
    rintro b ⟨i, o, e1, e2⟩
    rcases dlive i o e1 with ⟨f1, f2, _⟩ | ⟨_, _, f3, f4, _⟩
    · exact .inl ⟨i, o, f1, by rw [← f2]; exact e2⟩
    · rw [f4] at e2
      exact .inr ⟨newT b ⟨i, o, f3, e2⟩, i, o, f3, e2⟩
  have grow : Grow c d := by
    refine ⟨dX, dB, ?_, ?_, ?_, size, fun b hb _ hy => stay b hb hy, fun b hb => (dT b hb).imp id (·.1), fun b cs e f hb => (by have := G.shape b cs e f (by rw [w1]; exact hb); rw [dw]; exact this), dY, fun b k sz h1 h2 h3 h4 h5 => (by
      have := G.wild b k sz (T1 b) (by rw [X1]; exact .inr h2) (by rw [Y1, Yx_pos _ h2]; exact h3) h4 (by rw [w1]; exact h5)
      rw [dw]; exact this)⟩
    · rw [dw, G.out, w1]
    · rw [dw, G.osE, w1]
    · rw [dw, G.tape, w1]
  have base := hr.base
  have ok2 : ∀ b, b < d1.w.heap.size → d1.ok true b → d.ok true b := fun b _ ho => by
    have hge : c.w.heap.size ≤ b := by have := ho.1 rfl; rw [G.B, B1] at this; exact this
    refine ⟨fun _ => by rw [dB]; omega, fun ht => ?_, fun hx => ?_⟩
    · rcases dT b ht with h9 | h9
      · have := Tlt b h9; omega
      · exact ho.2.1 h9.2
    · rw [dX] at hx; have := hr.xlt b hx; omega
  have nm2 : ∀ i x, (nb ≤ i ∧ i < nb + ws.length) → d1.φ i = some x → d.φ i = some x := fun i x h1 h2 => by rw [dφ, if_pos h1]; exact h2
  have hrd : HR d := by
    refine ⟨fun i y2 e2 cl hs => ?_, fun i i' b e1 e2 e3 e4 => ?_, by rw [dB]; exact Nat.le_trans hr.base size, fun b hb => by rw [dX] at hb; exact Nat.lt_of_lt_of_le (hr.xlt b hb) size, hr.gl.grow grow⟩
    · rcases dlive i _ hs with ⟨f1, f2, _⟩ | ⟨h1, h2, f3, f4, x, hx, f5⟩
      · rcases hr.row i y2 e2 cl f1 with ⟨g1, g2⟩ | ⟨b, cs, g1, g2, g3', g4, g5⟩
        · exact .inl ⟨by rw [f2]; exact g1, g2⟩
        · refine .inr ⟨b, cs, by rw [f2]; exact g1, g2.of (stay b g2.lt (fun h9 => absurd h9 g3'.2)), ⟨by rw [dB]; exact g3'.1, by rw [dX]; exact g3'.2⟩, g4, fun j x hj => ?_⟩
          obtain ⟨q, k1, k2, k3⟩ := g5 j x hj
          exact ⟨q, k1, k2, k3.mono grow names⟩
      · cases f5
        rcases T2.hr.row i _ _ _ f3 with ⟨g1, g2⟩ | ⟨b, cs, g1, g2, g3', g4, g5⟩
        · exact .inl ⟨by rw [f4]; exact g1, g2⟩
        · have hge := newT b ⟨i, _, f3, g1⟩
          refine .inr ⟨b, cs, by rw [f4]; exact g1, by rw [dw]; exact g2, ⟨fun _ => by rw [dB]; omega, fun hx2 => by rw [dX] at hx2; have := hr.xlt b hx2; omega⟩, g4, fun j x' hj => ?_⟩
          obtain ⟨q, m1, m2, m3⟩ := g5 j x' hj
          exact ⟨q, m1, m2, VR.yg dw ok2 nm2 (YgL_iff.1 (hyw x hx) x' (List.mem_of_getElem? hj)) m3⟩
    · obtain ⟨o1, ho1⟩ := Option.ne_none_iff_exists'.1 e1
      obtain ⟨o2, ho2⟩ := Option.ne_none_iff_exists'.1 e2
      rcases dlive i o1 ho1 with ⟨f1, f2, _⟩ | ⟨_, _, f3, f4, _⟩ <;> rcases dlive i' o2 ho2 with ⟨j1, j2, _⟩ | ⟨_, _, j3, j4, _⟩
      · exact hr.inj i i' b (by rw [f1]; simp) (by rw [j1]; simp) (by rw [← f2]; exact e3) (by rw [← j2]; exact e4)
      · rw [j4] at e4
        have := newT b ⟨i', _, j3, e4⟩
        have := Tlt b ⟨i, _, f1, by rw [← f2]; exact e3⟩
        omega
      · rw [f4] at e3
        have := newT b ⟨i, _, f3, e3⟩
        have := Tlt b ⟨i', _, j1, by rw [← j2]; exact e4⟩
        omega
      · rw [f4] at e3
        rw [j4] at e4
        exact T2.hr.inj i i' b (by rw [f3]; simp) (by rw [j3]; simp) e3 e4
  exact ⟨v, d, rfl, dw, VR.yg dw ok2 nm2 hy hv2, grow, names, hrd, by rw [← hd], fun i hi => by
    rw [dφ] at hi
    by_cases h1 : nb ≤ i ∧ i < nb + ws.length
    · exact .inr (by omega)
    · rw [if_neg h1] at hi; exact .inl hi⟩

theorem VRm.bo (hr : HR c) (hσ : ∀ (j : Nat) (x : RW), rws[j]? = some x → c.σ x.1 = some (.row x.2.1 x.2.2.1 x.2.2.2)) (hne : ∀ x ∈ rws, x.2.2.2 ≠ []) (hw : d.w = c.w) (hk : ∀ fr b, b < c.w.heap.size → c.ok fr b → d.ok false b)
    (hrow : ∀ (j : Nat) (x : RW) b, rws[j]? = some x → c.φ x.1 = some (some b) → d.ok false b) {b : Nat} : ∀ {cs : List AV} {off : Nat}, VRm c b off cs → VRm d b off (boL rws cs)
  | [], _, _ => trivial
  | a :: r, off, k => by
    rw [VRm] at k
    rw [boL, VRm]
    obtain ⟨⟨u, h1, h2, h3⟩, h4⟩ := k
    exact ⟨⟨u, by rw [hw]; exact h1, h2, VR.bo hr hσ hne hw hk hrow h3⟩, VRm.bo hr hσ hne hw hk hrow h4⟩
end Go.Proofs.YtonglhkiobibgaaGreatDoor
namespace Go.Proofs.YtonglhkiobibgaaGreatDoor
open Go.RowKit
variable {P : Program} {c d : Cx} {rws : List RW}
mutual
/-- a value, its rows as data; f says what becomes of a row's cells -/
def boW (f : List AV → List AV) (rws : List RW) : AV → AV
  | .os id off n sz => match cellsAt rws id with | some cs => .fs false (f ((cs.drop off).take (n * sz))) n | none => .any
  | .op id off => match cellsAt rws id with | some cs => .fp false (f cs) off | none => .any
  | .agg l => .agg (boWL f rws l)
  | .fn g l => .fn g (boWL f rws l)
  | .ifc t a => .ifc t (boW f rws a)
  | a => od a
def boWL (f : List AV → List AV) (rws : List RW) : List AV → List AV
  | [] => []
  | a :: r => boW f rws a :: boWL f rws r
end
def boDL : Nat → List RW → List AV → List AV
  | 0, _, l => odL l
  | k + 1, rws, l => boWL (boDL k rws) rws l
section
variable {f : List AV → List AV}
theorem VRm.part {b : Nat} {cs : List AV} {off m : Nat} (h : VRm c b 0 cs) : VRm c b off ((cs.drop off).take m) := by
  rw [VRm_iff] at h ⊢
  intro j a hj
  rw [List.getElem?_take] at hj
  split at hj
  · rw [List.getElem?_drop] at hj
    have := h _ _ hj
    rwa [Nat.zero_add] at this
  · cases hj
theorem HR.rowm (hr : HR c) {x : RW} (hσ : c.σ x.1 = some (.row x.2.1 x.2.2.1 x.2.2.2)) {b : Nat} (hφ : c.φ x.1 = some (some b)) (hcl : ∃ vs e' f, c.w.heap[b]? = some (Obj.cells vs e' f)) : VRm c b 0 x.2.2.2 ∧ b < c.w.heap.size := by
  rcases hr.row x.1 _ _ _ hσ with ⟨h2, _⟩ | ⟨b', vs, g1, g2, g3, g4, g5⟩
  · rw [hφ] at h2; cases h2
  · rw [hφ] at g1; cases g1
    refine ⟨VRm_iff.2 fun q a hq => ?_, g2.lt⟩
    replace g2 := g2.cells hcl
    obtain ⟨u, k1, k2, k3⟩ := g5 q a hq
    exact ⟨u, by rw [Nat.zero_add]; simp [World.cell?, g2, k1], k2, k3⟩
mutual
theorem VR.boW (hr : HR c) (hσ : ∀ (j : Nat) (x : RW), rws[j]? = some x → c.σ x.1 = some (.row x.2.1 x.2.2.1 x.2.2.2)) (hw : d.w = c.w) (hk : ∀ fr b, b < c.w.heap.size → c.ok fr b → d.ok false b)
    (hrow : ∀ (j : Nat) (x : RW) b, rws[j]? = some x → c.φ x.1 = some (some b) → d.ok false b) (hf : ∀ {b off : Nat} {cs : List AV}, VRm c b off cs → VRm d b off (f cs)) : ∀ {a : AV} {u : Value}, VR c a u → VR d (boW f rws a) u
  | .os id off n sz, u, k => by
    unfold Go.Proofs.YtonglhkiobibgaaGreatDoor.boW
    cases hc : cellsAt rws id with
    | none => trivial
    | some cs =>
      obtain ⟨j, x, h1, rfl, rfl⟩ := cellsAt_mem hc
      obtain ⟨A, k', rfl, hk', hm⟩ := k
      refine ⟨A, k', rfl, hk', fun h0 => ?_⟩
      rcases hm with ⟨_, h2⟩ | ⟨b, h2, rfl, cs9, e9, f9, h9, _⟩
      · omega
      · obtain ⟨g1, g2⟩ := hr.rowm (hσ j x h1) h2 ⟨_, _, _, h9⟩
        exact ⟨b, off, rfl, by rw [hw]; exact g2, hrow j x b h1 h2, hf g1.part⟩
  | .op id off, u, k => by
    unfold Go.Proofs.YtonglhkiobibgaaGreatDoor.boW
    cases hc : cellsAt rws id with
    | none => trivial
    | some cs =>
      obtain ⟨j, x, h1, rfl, rfl⟩ := cellsAt_mem hc
      obtain ⟨b, h2, rfl, hcl⟩ := k
      obtain ⟨g1, g2⟩ := hr.rowm (hσ j x h1) h2 hcl
      exact ⟨b, 0, by rw [Nat.zero_add], by rw [hw]; exact g2, hrow j x b h1 h2, hf g1⟩
  | .agg l, u, k => by obtain ⟨us, rfl, k⟩ := k; exact ⟨us, rfl, VRl.boW hr hσ hw hk hrow hf k⟩
  | .ifc t a, u, k => by obtain ⟨v, rfl, k⟩ := k; exact ⟨v, rfl, VR.boW hr hσ hw hk hrow hf (a := a) k⟩
  | .fn g l, u, k => by obtain ⟨us, rfl, k⟩ := k; exact ⟨us, rfl, VRt.boW hr hσ hw hk hrow hf k⟩
  | .any, u, k => VR.od hw hk (a := .any) k
  | .v x, u, k => VR.od hw hk (a := .v x) k
  | .wv x, u, k => VR.od hw hk (a := .wv x) k
  | .ws x n, u, k => VR.od hw hk (a := .ws x n) k
  | .wp x, u, k => VR.od hw hk (a := .wp x) k
  | .mp x, u, k => VR.od hw hk (a := .mp x) k
  | .fs fr cs n, u, k => VR.od hw hk (a := .fs fr cs n) k
  | .fp fr cs n, u, k => VR.od hw hk (a := .fp fr cs n) k
  | .us fr e cs n, u, k => VR.od hw hk (a := .us fr e cs n) k
  | .tup l, u, k => VR.od hw hk (a := .tup l) k
theorem VRl.boW (hr : HR c) (hσ : ∀ (j : Nat) (x : RW), rws[j]? = some x → c.σ x.1 = some (.row x.2.1 x.2.2.1 x.2.2.2)) (hw : d.w = c.w) (hk : ∀ fr b, b < c.w.heap.size → c.ok fr b → d.ok false b)
    (hrow : ∀ (j : Nat) (x : RW) b, rws[j]? = some x → c.φ x.1 = some (some b) → d.ok false b) (hf : ∀ {b off : Nat} {cs : List AV}, VRm c b off cs → VRm d b off (f cs)) : ∀ {cs : List AV} {us : List Value}, VRl c cs us → VRl d (boWL f rws cs) us
  | [], _, k => k
  | a :: r, us, k => by
    rw [VRl] at k
    rw [boWL, VRl]
    obtain ⟨u, us', rfl, h1, h2, h3⟩ := k
    exact ⟨u, us', rfl, h1, VR.boW hr hσ hw hk hrow hf h2, VRl.boW hr hσ hw hk hrow hf h3⟩
theorem VRt.boW (hr : HR c) (hσ : ∀ (j : Nat) (x : RW), rws[j]? = some x → c.σ x.1 = some (.row x.2.1 x.2.2.1 x.2.2.2)) (hw : d.w = c.w) (hk : ∀ fr b, b < c.w.heap.size → c.ok fr b → d.ok false b)
    (hrow : ∀ (j : Nat) (x : RW) b, rws[j]? = some x → c.φ x.1 = some (some b) → d.ok false b) (hf : ∀ {b off : Nat} {cs : List AV}, VRm c b off cs → VRm d b off (f cs)) : ∀ {cs : List AV} {us : List Value}, VRt c cs us → VRt d (boWL f rws cs) us
  | [], _, k => k
  | a :: r, us, k => by
    rw [VRt] at k
    rw [boWL, VRt]
    obtain ⟨u, us', rfl, h2, h3⟩ := k
    exact ⟨u, us', rfl, VR.boW hr hσ hw hk hrow hf h2, VRt.boW hr hσ hw hk hrow hf h3⟩
end
theorem VRm.boW (hr : HR c) (hσ : ∀ (j : Nat) (x : RW), rws[j]? = some x → c.σ x.1 = some (.row x.2.1 x.2.2.1 x.2.2.2)) (hw : d.w = c.w) (hk : ∀ fr b, b < c.w.heap.size → c.ok fr b → d.ok false b)
    (hrow : ∀ (j : Nat) (x : RW) b, rws[j]? = some x → c.φ x.1 = some (some b) → d.ok false b) (hf : ∀ {b off : Nat} {cs : List AV}, VRm c b off cs → VRm d b off (f cs)) {b : Nat} : ∀ {cs : List AV} {off : Nat}, VRm c b off cs → VRm d b off (boWL f rws cs)
  | [], _, _ => trivial
  | a :: r, off, k => by
    rw [VRm] at k
    rw [boWL, VRm]
    obtain ⟨⟨u, h1, h2, h3⟩, h4⟩ := k
    exact ⟨⟨u, by rw [hw]; exact h1, h2, VR.boW hr hσ hw hk hrow hf h3⟩, VRm.boW hr hσ hw hk hrow hf h4⟩
end
theorem VRm.boDL (hr : HR c) (hσ : ∀ (j : Nat) (x : RW), rws[j]? = some x → c.σ x.1 = some (.row x.2.1 x.2.2.1 x.2.2.2)) (hw : d.w = c.w) (hk : ∀ fr b, b < c.w.heap.size → c.ok fr b → d.ok false b)
    (hrow : ∀ (j : Nat) (x : RW) b, rws[j]? = some x → c.φ x.1 = some (some b) → d.ok false b) : ∀ (k : Nat) {b off : Nat} {cs : List AV}, VRm c b off cs → VRm d b off (boDL k rws cs)
  | 0, _, _, _, h => VRm.od hw hk h
  | k + 1, _, _, _, h => VRm.boW hr hσ hw hk hrow (fun h => VRm.boDL hr hσ hw hk hrow k h) h
/-- a contract that asks for data, used with what the caller holds: its rows, k deep, as data -/
theorem ASound.borrowD (k : Nat) {f : FuncId} {args : List AV} {nb : Nat} {r : AV} (ws : List (Bool × Nat × List AV)) (rws : List RW) (h : ASound P f (boDL (k + 1) rws args) nb (.ret r (newW nb ws))) (hfew : ws.length ≤ 100000)
    (hy : Yg (fun i => nb ≤ i ∧ i < nb + ws.length) r) (hyw : ∀ x ∈ ws, YgL (fun i => nb ≤ i ∧ i < nb + ws.length) x.2.2) : ASound P f args nb (rowsM rws (.ret r (newW nb ws))) :=
  ASound.borrowG ws rws (fun c d hr hσ hw hk hrow us hv => VRt.boW hr hσ hw hk hrow (fun h => VRm.boDL hr hσ hw hk hrow k h) hv) h hfew hy hyw
end Go.Proofs.YtonglhkiobibgaaGreatDoor
namespace Go.Proofs.YtonglhkiobibgaaGreatDoor
open Go.RowKit
set_option maxRecDepth 100000
theorem ASound.args {P : Program} {f : FuncId} {args args' : List AV} {nb : Nat} {am : AM} (h : ASound P f args nb am) (hi : ImpL args' args) : ASound P f args' nb am :=
  ⟨h.1, fun c us r R W hrun hr hfr hv => h.2 c us r R W hrun hr hfr (by
    obtain ⟨e1, e2⟩ := ImpL_get hi
    rw [VRt_iff] at hv ⊢
    refine ⟨by omega, fun j a hj => ?_⟩
    obtain ⟨x, hx, hix⟩ := e2 j a hj
    obtain ⟨u, k1, k2⟩ := hv.2 j x hx
    exact ⟨u, k1, hix c u k2⟩)⟩
def octL (s : ByteArray) : List Int := s.data.toList.map fun b => (b.toNat : Int)
theorem octL_len (s : ByteArray) : (octL s).length = s.size := by unfold octL; rw [List.length_map, Array.length_toList]; rfl
theorem octs_eq (s : ByteArray) : octs s = eB (octL s) := by unfold octs eB octL; rw [List.map_map]; rfl
/-- strings -/
def eS (l : List ByteArray) : List AV := l.map fun s => .v (.string s)
def fS (fr : Bool) (l : List ByteArray) : AV := .fs fr (eS l) l.length
section
variable {fr : Bool} {p : Nat → Prop}
theorem al_S (l : List ByteArray) : AlL p (eS l) := AlL_map (e := fun s => AV.v (.string s)) (fun _ => trivial) l
theorem al_fS (l : List ByteArray) : Al p (fS fr l) := al_S l
theorem ren_S {ρ : Nat → Nat} (l : List ByteArray) : renL ρ (eS l) = eS l := renL_id (p := fun _ => False) (fun _ h => h.elim) (al_S l)
theorem get_S {l : List ByteArray} {i : Nat} {x : ByteArray} (h : l[i]? = some x) : (eS l)[i]? = some (.v (.string x)) := by simp [eS, h]
end
structure OpD where
  kind : Int
  path : ByteArray
  to : ByteArray
  off : Int
  n : Int
  data : List Int
structure RepD where
  err : Int
  n : Int
  data : List Int
  names : List ByteArray
def aOp (fr : Bool) (o : OpD) : AV := .agg [.v (.int .i64 o.kind), .v (.string o.path), .v (.string o.to), .v (.int .i64 o.off), .v (.int .i64 o.n), fB fr o.data]
def aRep (fr : Bool) (r : RepD) : AV := .agg [.v (.int .i64 r.err), .v (.int .i64 r.n), fB fr r.data, fS fr r.names]
theorem al_aOp {p : Nat → Prop} {fr : Bool} (o : OpD) : Al p (aOp fr o) := ⟨trivial, trivial, trivial, trivial, trivial, al_fB _, trivial⟩
theorem al_aRep {p : Nat → Prop} {fr : Bool} (r : RepD) : Al p (aRep fr r) := ⟨trivial, trivial, al_fB _, al_fS _, trivial⟩
/-- may an op be? -/
def opChk (o : OpD) : Int := if o.kind < 1 ∨ 12 < o.kind then 22 else if 255 < o.path.size ∨ 255 < o.to.size ∨ 4096 < o.data.length then 5 else 0
def opRec (o : OpD) : Rec := ⟨o.kind, [o.off, o.n], [octL o.path, octL o.to, o.data]⟩
def encO (o : OpD) : List Int × Int := if opChk o = 0 then encode (opRec o) else ([], opChk o)
def repChk (r : RepD) : Int := if r.err < 0 ∨ 65536 < r.err ∨ r.n < 0 ∨ 2147483647 < r.n then 4 else if 4096 < r.data.length then 5 else if 64 < r.names.length then 3 else if ∃ s ∈ r.names, 255 < s.size then 5 else 0
def repRec (r : RepD) : Rec := ⟨0, [r.err, r.n], r.data :: r.names.map octL⟩
def encRep (r : RepD) : List Int × Int := if repChk r = 0 then encode (repRec r) else ([], repChk r)
end Go.Proofs.YtonglhkiobibgaaGreatDoor
namespace Go.Proofs.YtonglhkiobibgaaGreatDoor
open Go.RowKit
set_option maxRecDepth 100000
def okBytes (l : List Int) : Prop := l.length * 1 ≤ reachB ∧ ∀ x ∈ l, (Lit.int .u8 x).wf = true
theorem okBytes_B {l : List Int} (h : okBytes l) : okB l := fun x hx => by
  have := h.2 x hx
  simp [Lit.wf, IntKind.min, IntKind.max, IntKind.bits, IntKind.signed] at this
  omega
theorem okBytes_le {l : List Int} (h : okBytes l) : l.length ≤ 140737488351232 := by have := h.1; unfold reachB at this; omega
theorem eB_flat (l : List Int) : eB l = l.flatMap fun x => [.v (.int .u8 x)] := by simp [eB, List.map_eq_flatMap]
theorem eL_flat (fr : Bool) (l : List (List Int)) : eL fr l = l.flatMap fun x => [fB fr x] := by simp [eL, List.map_eq_flatMap, fB]
theorem rdt_bytes : Rd Tryz.prog 37 (fun fr l => [fB fr l]) okBytes :=
  (rd_slice (B := 1) Tryz.underlying37 (by kernel_rfl) (by kernel_rfl) (by rw [show Tryz.prog.cellsOf 5 = 1 from by kernel_rfl]; decide) (rd_int Tryz.underlying5 (by kernel_rfl))).map id id (fun fr b => by simp [fB, eB_flat]) (fun fr b => by simp [fB, eB_flat]) fun a h => h
theorem rdt_lists : Rd Tryz.prog 93 (fun fr l => [fL fr l]) (fun l => l.length * 24 ≤ reachB ∧ ∀ x ∈ l, okBytes x) :=
  (rd_slice (B := 24) Tryz.underlying93 (by kernel_rfl) (by kernel_rfl) (by rw [show Tryz.prog.cellsOf 37 = 1 from by kernel_rfl]; decide) rdt_bytes).map id id (fun fr b => by simp [fL, eL_flat]) (fun fr b => by simp [fL, eL_flat]) fun a h => h
theorem laid : laidOutB Tryz.prog = true := by kernel_rfl
def okLists (l : List (List Int)) : Prop := l.length * 24 ≤ reachB ∧ ∀ x ∈ l, okBytes x
theorem open_lists {H : Type} {enc : TypeId × Value → H} {W : World} {base : Nat} {v : Value} {d : DataW H} {ps : List MemPlace} (hv : Value.okWide Tryz.prog W .any base 93 v) (h : DataW.Trod enc Tryz.prog W 0 (fun _ => true) true 93 v d ps)
    (hw : (d.weights Tryz.prog 93).all (· ≤ reachBytes) = true) : ∃ s, okLists s ∧ VR (cx0 W) (fL false s) v := by
  have hc : v.cells.toList = [v] := by
    cases v <;> first | rfl | (exfalso; simp [Value.okWide, Cell.okWide, Cell.ok, Tryz.underlying93] at hv)
  obtain ⟨fuel, h⟩ := h
  obtain ⟨s, h1, h2⟩ := rdt_lists.rd h hw
  refine ⟨s, h1, ?_⟩
  rw [hc, VRl] at h2
  obtain ⟨u, us, e, _, h3, _⟩ := h2
  cases e
  exact h3
theorem okLists_len {l : List (List Int)} (h : okLists l) : l.length ≤ 5864062014805 := by have := h.1; unfold reachB at this; omega
theorem okLists_ok {l : List (List Int)} (h : okLists l) : ∀ t ∈ l, okB t := fun t ht => okBytes_B (h.2 t ht)
theorem okLists_le {l : List (List Int)} (h : okLists l) : ∀ t ∈ l, t.length ≤ 140737488355328 := fun t ht => by have := okBytes_le (h.2 t ht); omega
def lst : List (String × DataW Unit) := [("unicode/utf8.acceptRanges", Rows.laid_unicode_utf8_acceptRanges), ("errors.errorType", Rows.laid_errors_errorType), ("unicode/utf8.first", Rows.laid_unicode_utf8_first)]
theorem own : ownKnob Tryz.prog.godebug = none := by kernel_rfl
theorem et : Tryz.prog.globalNamed "errors.errorType" = some 0 := by kernel_rfl
theorem rtT : (Tryz.prog.cutTypes.find? (·.1 == "internal/reflectlite.rtype")).map (·.2) = some 342 := by kernel_rfl
theorem tsize : Tryz.prog.types.size = 459 := by kernel_rfl
theorem oneRow : ((List.range 459).filter fun t => Tryz.prog.rowNamed t [101, 114, 114, 111, 114]) = [102] := by kernel_rfl
theorem glob_of_laid {W : World} (h : laidMetH Tryz.prog lst W) : ∀ b v, GLOB b = some v → W.cell? ⟨b, 0, none⟩ = some v := by
  intro b v hb
  have h' : laidMet Tryz.prog (lst.filter fun x => x.2.handleName?.isNone) W ∧ handlesMet Tryz.prog (lst.filter fun x => x.2.handleName?.isSome) W := h
  obtain ⟨name, u, ty, e1, e2, e3, e4, e5⟩ := h'.2 ("errors.errorType", Rows.laid_errors_errorType) (by simp [lst]; decide)
  have en : name = [101, 114, 114, 111, 114] := (Option.some.inj e1).symm
  subst en
  obtain rfl := Option.some.inj (rtT.symm.trans e2)
  have hm : ty ∈ (List.range 459).filter fun t => Tryz.prog.rowNamed t [101, 114, 114, 111, 114] := List.mem_filter.2 ⟨List.mem_range.2 (by rw [← tsize]; exact e3), e4⟩
  rw [oneRow] at hm
  obtain rfl := List.mem_singleton.1 hm
  have hh : typeHandle Tryz.prog 102 = .pointer (some ⟨4, 102, none⟩) := by kernel_rfl
  rw [hh] at e5
  have hc : W.cell? ⟨0, 0, none⟩ = some (.iface 342 (.agg #[.pointer (some ⟨4, 102, none⟩)])) := by simpa using World.var?_cell et e5 0
  unfold GLOB at hb
  split at hb
  · rename_i e; subst e; cases hb; exact hc
  · cases hb
/-- a world that holds it -/
noncomputable def laidW0 (os : Os) : World :=
  let w0 := World.holding Tryz.prog os ⟨#[], #[], []⟩
  { w0 with heap := w0.heap.modify 0 fun
      | .cells _ t frozen => .cells #[.iface 342 (.agg #[.pointer (some ⟨4, 102, none⟩)])] t frozen
      | o => o }
def lstD : List (String × DataW Unit) := [("unicode/utf8.acceptRanges", Rows.laid_unicode_utf8_acceptRanges), ("unicode/utf8.first", Rows.laid_unicode_utf8_first)]
noncomputable def laidWorld (os : Os) : World := (laidW0 os).layVars Tryz.prog lstD
theorem laidWorld_os (os : Os) : (laidWorld os).os = os := World.layVars_os _ _ _
theorem laidWorld_met (os : Os) (args : Array Value) : laidMetH Tryz.prog lst ((laidWorld os).forCall (fun _ _ => 0) ⟨#[], args, []⟩).memory := by
  refine laidMetH_of_parts ?_ (by kernel_rfl)
  have e : (lst.filter fun x => x.2.handleName?.isNone) = lstD := by rfl
  rw [e]
  have e1 : (lstD.filter fun x => ["unicode/utf8.acceptRanges", "unicode/utf8.first"].contains x.1) = lstD := by rfl
  have e2 : (lstD.filter fun x => !["unicode/utf8.acceptRanges", "unicode/utf8.first"].contains x.1) = [] := by rfl
  have h : laidMet Tryz.prog lstD (laidWorld os) := laidMet_layVars (w0 := laidW0 os) ["unicode/utf8.acceptRanges", "unicode/utf8.first"] [] (by rw [e1]; rfl) (by rw [e1]; kernel_rfl) (by rw [e1]; kernel_rfl) (by rw [e2]; exact LaidIn.none)
  exact h.of_heap (by simp [World.memory, World.forCall, Input.heap])
theorem laidWorld_shaped (os : Os) (args : Array Value) : ((laidWorld os).forCall (fun _ _ => 0) ⟨#[], args, []⟩).Shaped Tryz.prog := World.shaped_of_ZipB (by kernel_rfl) (by kernel_rfl)
theorem looksT : true = Tryz.pinned.checked.prog.looks [] := by kernel_rfl
theorem mainT : Tryz.pinned.checked.prog.mainIs = some ((true, "99614a6981dfa3949a41461e4baab9d71b1d837fc286f2318c98390de9c6db5d").1, (true, "99614a6981dfa3949a41461e4baab9d71b1d837fc286f2318c98390de9c6db5d").2.toList) := by kernel_rfl
end Go.Proofs.YtonglhkiobibgaaGreatDoor
namespace Go.Proofs.YtonglhkiobibgaaGreatDoor
open Go.RowKit
set_option maxRecDepth 100000
set_option maxHeartbeats 1000000 in
theorem opCheck_spec (fr : Bool) (o : OpD) (nb : Nat) : ASound Tryz.prog 48 [aOp fr o] nb (.ret (.v (.int .i64 (opChk o))) []) := by
  refine ok_48.sound (by simp) ⟨al_aOp o, trivial⟩ ?_
  by_cases h1 : o.kind < 1
  · have e : opChk o = 22 := by rw [opChk, if_pos (.inl h1)]
    simp only [ac_48, aOp, h1, e, TT, ↓reduceIte, Nat.reduceEqDiff, Nat.reduceAdd, Nat.reduceMul, reduceCtorEq, Nat.reduceLeDiff]
    exact Ends.data (.inr rfl) (by simp [ET]) trivial
  by_cases h2 : 12 < o.kind
  · have e : opChk o = 22 := by rw [opChk, if_pos (.inr h2)]
    simp only [ac_48, aOp, h1, h2, e, TT, ↓reduceIte, Nat.reduceEqDiff, Nat.reduceAdd, Nat.reduceMul, reduceCtorEq, Nat.reduceLeDiff]
    exact Ends.data (.inr rfl) (by simp [ET]) trivial
  have e0 : opChk o = if 255 < o.path.size ∨ 255 < o.to.size ∨ 4096 < o.data.length then 5 else 0 := by rw [opChk, if_neg (by omega)]
  have em : ((255 : Int) < (if (o.path.size : Int) < (o.to.size : Int) then (o.to.size : Int) else (o.path.size : Int))) ↔ (255 < o.path.size ∨ 255 < o.to.size) := by split <;> omega
  by_cases h3 : 255 < o.path.size ∨ 255 < o.to.size
  · have e : opChk o = 5 := by rw [e0, if_pos (by omega)]
    simp only [ac_48, aOp, h1, h2, em, h3, e, TT, ↓reduceIte, Nat.reduceEqDiff, Nat.reduceAdd, Nat.reduceMul, reduceCtorEq, Nat.reduceLeDiff]
    exact Ends.data (.inr rfl) (by simp [ET]) trivial
  by_cases h4 : 4096 < o.data.length
  · have e : opChk o = 5 := by rw [e0, if_pos (by omega)]
    have e4 : ((4096 : Int) < (o.data.length : Int)) := by omega
    simp only [ac_48, aOp, h1, h2, em, h3, e4, e, TT, ↓reduceIte, Nat.reduceEqDiff, Nat.reduceAdd, Nat.reduceMul, reduceCtorEq, Nat.reduceLeDiff]
    exact Ends.data (.inr rfl) (by simp [ET]) trivial
  have e : opChk o = 0 := by rw [e0, if_neg (by omega)]
  have e4 : ¬ ((4096 : Int) < (o.data.length : Int)) := by omega
  simp only [ac_48, aOp, h1, h2, em, h3, e4, e, TT, ↓reduceIte, Nat.reduceEqDiff, Nat.reduceAdd, Nat.reduceMul, reduceCtorEq, Nat.reduceLeDiff]
  exact Ends.data (.inr rfl) (by simp [ET]) trivial
theorem encode_b (fr : Bool) (o : OpD) (h1 : i64ok o.off) (h2 : i64ok o.n) (id1 id2 nb : Nat) (hne : id1 ≠ id2) : ASound Tryz.prog 96 [.agg [.v (.int .i64 o.kind), .os id1 0 2 1, .os id2 0 3 1]] nb
    (rowsM [(id1, true, 3, [.v (.int .i64 o.off), .v (.int .i64 o.n)]), (id2, true, 37, [.fs true (octs o.path) o.path.size, .fs true (octs o.to) o.to.size, fB fr o.data])] (.ret (.tup [fB true (encode (opRec o)).1, .v (.int .i64 (encode (opRec o)).2)]) [])) := by
  refine ASound.borrow [] [(id1, true, 3, [.v (.int .i64 o.off), .v (.int .i64 o.n)]), (id2, true, 37, [.fs true (octs o.path) o.path.size, .fs true (octs o.to) o.to.size, fB fr o.data])] ?_ (by simp) (by simp) ⟨yg_fB _, trivial, trivial⟩ (by simp)
  have e : boL [(id1, true, 3, [.v (.int .i64 o.off), .v (.int .i64 o.n)]), (id2, true, 37, [.fs true (octs o.path) o.path.size, .fs true (octs o.to) o.to.size, fB fr o.data])] [.agg [.v (.int .i64 o.kind), .os id1 0 2 1, .os id2 0 3 1]] = [aRec false (opRec o)] := by
    simp [boL, bo, cellsAt, od, odL, od_fB, fI, aRec, opRec, fL, eL, eI, fB, hne.symm, od_B, octs_eq, octL_len]
  rw [e]
  exact encode_spec false (opRec o) nb (by intro n hn; simp [opRec] at hn; rcases hn with rfl | rfl <;> assumption)
set_option maxHeartbeats 1000000 in
theorem opEncode_spec (fr : Bool) (o : OpD) (nb : Nat) (h1 : i64ok o.off) (h2 : i64ok o.n) : ASound Tryz.prog 43 [aOp fr o] nb (.ret (.tup [fB true (encO o).1, .v (.int .i64 (encO o).2)]) []) := by
  refine ok_43.sound (by simp) ⟨al_aOp o, trivial⟩ ?_
  have hc := opCheck_spec fr o
  simp only [aOp] at hc
  simp only [ac_43, aOp, TT, ↓reduceIte, Nat.reduceEqDiff, Nat.reduceAdd, Nat.reduceMul, reduceCtorEq, Nat.reduceLeDiff]
  refine ⟨_, hc _, ?_⟩
  simp only [TT, ↓reduceIte, Nat.reduceEqDiff, Nat.reduceAdd, Nat.reduceMul, reduceCtorEq, Nat.reduceLeDiff]
  by_cases h0 : opChk o = 0
  · have e : encO o = encode (opRec o) := by rw [encO, if_pos h0]
    simp only [h0, e, TT, ↓reduceIte, Nat.reduceEqDiff, Nat.reduceAdd, Nat.reduceMul, reduceCtorEq, Nat.reduceLeDiff]
    refine ⟨_, encode_b fr o h1 h2 _ _ _ (by omega), ?_⟩
    simp only [TT, ↓reduceIte, Nat.reduceEqDiff, Nat.reduceAdd, Nat.reduceMul, reduceCtorEq, Nat.reduceLeDiff]
    exact Ends.data (.inr rfl) (by simp [ET]) ⟨al_fB _, trivial, trivial⟩
  · have e : encO o = ([], opChk o) := by rw [encO, if_neg h0]
    simp only [h0, e, TT, ↓reduceIte, Nat.reduceEqDiff, Nat.reduceAdd, Nat.reduceMul, reduceCtorEq, Nat.reduceLeDiff]
    exact Ends.imp (.inr rfl) (r0 := .tup [.v (.slice none 0 0), .v (.int .i64 (opChk o))]) (by simp [ET]) ⟨trivial, trivial, trivial⟩ (Imp.tup rfl (fun j a' hj => by
      match j with
      | 0 => simp at hj; subst hj; exact ⟨_, rfl, Imp.nil true⟩
      | 1 => simp at hj; subst hj; exact ⟨_, rfl, Imp.refl _⟩
      | j + 2 => simp at hj))
end Go.Proofs.YtonglhkiobibgaaGreatDoor
namespace Go.Proofs.YtonglhkiobibgaaGreatDoor
open Go.RowKit
set_option maxRecDepth 100000
theorem longS_spec (s : ByteArray) (nb : Nat) : ASound Tryz.prog 101 [.v (.string s)] nb (.ret (.v (.bool (decide (255 < (s.size : Int))))) []) := by
  refine ok_101.sound (by simp) ⟨trivial, trivial⟩ ?_
  simp only [ac_101, TT, ↓reduceIte, Nat.reduceEqDiff, Nat.reduceAdd, Nat.reduceMul, reduceCtorEq, Nat.reduceLeDiff]
  exact Ends.data (.inr rfl) (by simp [ET]) trivial
/-- the first name that is too long -/
def idxS : List ByteArray → Nat → Int
  | [], _ => -1
  | s :: r, i => if 255 < s.size then (i : Int) else idxS r (i + 1)
theorem idxS_drop {l : List ByteArray} {i : Nat} {s : ByteArray} (h : l[i]? = some s) : idxS (l.drop i) i = if 255 < s.size then (i : Int) else idxS (l.drop (i + 1)) (i + 1) := by
  have hi := (List.getElem?_eq_some_iff.1 h)
  rw [List.drop_eq_getElem_cons hi.1, hi.2]; rfl
theorem idxS_pos : ∀ (l : List ByteArray) (i : Nat), 0 ≤ idxS l i ↔ ∃ s ∈ l, 255 < s.size
  | [], i => by simp [idxS]
  | s :: r, i => by
    rw [idxS]
    by_cases h : 255 < s.size
    · rw [if_pos h]; simp [h]
    · rw [if_neg h, idxS_pos r (i + 1)]; simp [h]
abbrev L_is (fr : Bool) (l : List ByteArray) (i : Nat) : ASt := ⟨envOf [(0, fS fr l), (1, .fn 101 []), (7, .v (.int .i64 l.length)), (8, .v (.int .i64 i))], heapOf [], 1⟩
theorem indexS_spec (fr : Bool) (l : List ByteArray) (nb : Nat) (hn : l.length ≤ 140737488355328) : ASound Tryz.prog 164 [fS fr l, .fn 101 []] nb (.ret (.v (.int .i64 (idxS l 0))) []) := by
  refine ok_164.sound (by simp) ⟨al_fS l, trivial, trivial⟩ ?_
  simp only [ac_164, fS, TT, ↓reduceIte, Nat.reduceEqDiff, Nat.reduceAdd, Nat.reduceMul, reduceCtorEq, Nat.reduceLeDiff]
  refine AWc.family (L_is fr l) (fun i => i ≤ l.length ∧ idxS (l.drop i) i = idxS l 0) (fun i => l.length - i) 0 ⟨Nat.zero_le _, rfl⟩ ?_ ?_
  · refine Weak.calc [] (by decide) ?_ ?_ <;> simp [WT, al_S, ren_S, fS]
  · rintro i ⟨hi, he⟩
    by_cases hlt : i < l.length
    · obtain ⟨s, hx, e1, e0⟩ := lt_at hlt
      simp only [L_is, fS, e1, e0, get_S hx, Int.toNat_natCast, TT, ↓reduceIte, Nat.reduceEqDiff, Nat.reduceAdd, Nat.reduceMul, reduceCtorEq, Nat.reduceLeDiff]
      refine ⟨_, _, _, rfl, longS_spec s _, ?_⟩
      have hd := idxS_drop hx
      by_cases h : 255 < s.size
      · have t1 : ((255 : Int) < (s.size : Int)) := by omega
        rw [if_pos h] at hd
        simp only [t1, decide_true, TT, ↓reduceIte, Nat.reduceEqDiff, Nat.reduceAdd, Nat.reduceMul, reduceCtorEq, Nat.reduceLeDiff]
        rw [← he, hd]
        exact Ends.data (.inr rfl) (by simp [ET]) trivial
      · have t1 : ¬ ((255 : Int) < (s.size : Int)) := by omega
        rw [if_neg h] at hd
        simp only [t1, decide_false, TT, ↓reduceIte, Nat.reduceEqDiff, Nat.reduceAdd, Nat.reduceMul, reduceCtorEq, Nat.reduceLeDiff]
        refine famC_next (i + 1) (by omega) ⟨by omega, by rw [← hd, he]⟩ ?_
        refine Weak.calc [] (by decide) ?_ ?_ <;> simp [WT, al_S, ren_S, fS, wrap64 (x := (i : Int) + 1) (by omega)]
    · obtain rfl : i = l.length := by omega
      have e1 : ¬ ((l.length : Int) < (l.length : Int)) := by omega
      rw [List.drop_length] at he
      simp only [L_is, fS, e1, TT, ↓reduceIte, Nat.reduceEqDiff, Nat.reduceAdd, Nat.reduceMul, reduceCtorEq, Nat.reduceLeDiff]
      rw [← he]
      exact Ends.data (.inr rfl) (by simp [ET, idxS]) trivial
theorem containsS_spec (fr : Bool) (l : List ByteArray) (nb : Nat) (hn : l.length ≤ 140737488355328) : ASound Tryz.prog 100 [fS fr l, .fn 101 []] nb (.ret (.v (.bool (decide (0 ≤ idxS l 0)))) []) := by
  refine ok_100.sound (by simp) ⟨al_fS l, trivial, trivial⟩ ?_
  have hs := indexS_spec fr l
  simp only [fS] at hs
  simp only [ac_100, fS, TT, ↓reduceIte, Nat.reduceEqDiff, Nat.reduceAdd, Nat.reduceMul, reduceCtorEq, Nat.reduceLeDiff]
  refine ⟨_, hs _ hn, ?_⟩
  simp only [TT, ↓reduceIte, Nat.reduceEqDiff, Nat.reduceAdd, Nat.reduceMul, reduceCtorEq, Nat.reduceLeDiff]
  exact Ends.data (.inr rfl) (by simp [ET]) trivial
/-- what the loop has laid -/
def txR (r : RepD) (i : Nat) : List (List Int) := r.data :: (r.names.take i).map octL
def eTx (fr : Bool) (r : RepD) (i : Nat) : List AV := fB fr r.data :: (r.names.take i).map fun s => .fs true (octs s) s.size
theorem eTx_len (fr : Bool) (r : RepD) {i : Nat} (h : i ≤ r.names.length) : (eTx fr r i).length = i + 1 := by simp [eTx]; omega
theorem eTx_s (fr : Bool) (r : RepD) {i : Nat} {s : ByteArray} (h : r.names[i]? = some s) : eTx fr r i ++ [.fs true (octs s) s.size] = eTx fr r (i + 1) := by
  unfold eTx
  rw [take_snoc h]; simp
theorem al_eTx {p : Nat → Prop} (fr : Bool) (r : RepD) (i : Nat) : AlL p (eTx fr r i) := ⟨al_fB _, AlL_map (e := fun s => AV.fs true (octs s) s.size) (fun s => by rw [octs_eq]; exact al_B _) _⟩
theorem ren_eTx {ρ : Nat → Nat} (fr : Bool) (r : RepD) (i : Nat) : renL ρ (eTx fr r i) = eTx fr r i := renL_id (p := fun _ => False) (fun _ h => h.elim) (al_eTx fr r i)
theorem od_eTx (fr : Bool) (r : RepD) (i : Nat) : odL (eTx fr r i) = eL false (txR r i) := by
  unfold eTx txR eL
  rw [odL_map, List.map_cons, List.map_cons, List.map_map, List.map_map]
  congr 1
  · rw [od_fB]; rfl
  · apply List.map_congr_left
    intro s _
    simp [od, octs_eq, od_B, octL_len]
theorem encodeR_b (fr : Bool) (r : RepD) (h1 : i64ok r.err) (h2 : i64ok r.n) (id1 id2 nb : Nat) (hne : id1 ≠ id2) : ASound Tryz.prog 96 [.agg [.v (.int .i64 0), .os id1 0 2 1, .os id2 0 (r.names.length + 1) 1]] nb
    (rowsM [(id1, true, 3, [.v (.int .i64 r.err), .v (.int .i64 r.n)]), (id2, true, 37, eTx fr r r.names.length)] (.ret (.tup [fB true (encode (repRec r)).1, .v (.int .i64 (encode (repRec r)).2)]) [])) := by
  refine ASound.borrow [] [(id1, true, 3, [.v (.int .i64 r.err), .v (.int .i64 r.n)]), (id2, true, 37, eTx fr r r.names.length)] ?_ (by simp [eTx]) (by simp) ⟨yg_fB _, trivial, trivial⟩ (by simp)
  have e : boL [(id1, true, 3, [.v (.int .i64 r.err), .v (.int .i64 r.n)]), (id2, true, 37, eTx fr r r.names.length)] [.agg [.v (.int .i64 0), .os id1 0 2 1, .os id2 0 (r.names.length + 1) 1]] = [aRec false (repRec r)] := by
    have e3 : (eTx fr r r.names.length).take (r.names.length + 1) = eTx fr r r.names.length := List.take_of_length_le (by rw [eTx_len fr r (Nat.le_refl _)]; exact Nat.le_refl _)
    simp [boL, bo, cellsAt, od, odL, fI, aRec, repRec, fL, eI, hne.symm, e3, od_eTx, txR]
  rw [e]
  exact encode_spec false (repRec r) nb (by intro n hn; simp [repRec] at hn; rcases hn with rfl | rfl <;> assumption)
abbrev L_er (fr : Bool) (r : RepD) (i : Nat) : ASt := ⟨envOf [(4, .op 0 0), (50, fS fr r.names), (51, .v (.int .i64 r.names.length)), (52, .v (.int .i64 i))], heapOf [(0, .row true 154 [.v (.int .i64 0), .os 1 0 2 1, .os 2 0 (i + 1) 1]), (1, .row true 3 [.v (.int .i64 r.err), .v (.int .i64 r.n)]), (2, .row true 37 (eTx fr r i))], 3⟩
theorem nilE (e : Int) : Imp (.tup [.v (.slice none 0 0), .v (.int .i64 e)]) (.tup [fB true [], .v (.int .i64 e)]) := Imp.tup rfl (fun j a' hj => by
  match j with
  | 0 => simp at hj; subst hj; exact ⟨_, rfl, Imp.nil true⟩
  | 1 => simp at hj; subst hj; exact ⟨_, rfl, Imp.refl _⟩
  | j + 2 => simp at hj)
set_option maxHeartbeats 2000000 in
theorem repEncode_spec (fr : Bool) (r : RepD) (nb : Nat) (h1 : i64ok r.err) (h2 : i64ok r.n) (hn : r.names.length ≤ 140737488355328) : ASound Tryz.prog 51 [aRep fr r] nb (.ret (.tup [fB true (encRep r).1, .v (.int .i64 (encRep r).2)]) []) := by
  refine ok_51.sound (by simp) ⟨al_aRep r, trivial⟩ ?_
  have bad : ∀ (e : Int), repChk r = e → e ≠ 0 → encRep r = ([], e) := fun e h h0 => by rw [encRep, if_neg (by omega), h]
  by_cases c1 : r.err < 0
  · have e := bad 4 (by rw [repChk, if_pos (.inl c1)]) (by decide)
    simp only [ac_51, aRep, c1, e, TT, ↓reduceIte, Nat.reduceEqDiff, Nat.reduceAdd, Nat.reduceMul, reduceCtorEq, Nat.reduceLeDiff]
    exact Ends.imp (.inr rfl) (r0 := .tup [.v (.slice none 0 0), .v (.int .i64 4)]) (by simp [ET]) ⟨trivial, trivial, trivial⟩ (nilE 4)
  by_cases c2 : 65536 < r.err
  · have e := bad 4 (by rw [repChk, if_pos (.inr (.inl c2))]) (by decide)
    simp only [ac_51, aRep, c1, c2, e, TT, ↓reduceIte, Nat.reduceEqDiff, Nat.reduceAdd, Nat.reduceMul, reduceCtorEq, Nat.reduceLeDiff]
    exact Ends.imp (.inr rfl) (r0 := .tup [.v (.slice none 0 0), .v (.int .i64 4)]) (by simp [ET]) ⟨trivial, trivial, trivial⟩ (nilE 4)
  by_cases c3 : r.n < 0
  · have e := bad 4 (by rw [repChk, if_pos (.inr (.inr (.inl c3)))]) (by decide)
    simp only [ac_51, aRep, c1, c2, c3, e, TT, ↓reduceIte, Nat.reduceEqDiff, Nat.reduceAdd, Nat.reduceMul, reduceCtorEq, Nat.reduceLeDiff]
    exact Ends.imp (.inr rfl) (r0 := .tup [.v (.slice none 0 0), .v (.int .i64 4)]) (by simp [ET]) ⟨trivial, trivial, trivial⟩ (nilE 4)
  by_cases c4 : 2147483647 < r.n
  · have e := bad 4 (by rw [repChk, if_pos (.inr (.inr (.inr c4)))]) (by decide)
    simp only [ac_51, aRep, c1, c2, c3, c4, e, TT, ↓reduceIte, Nat.reduceEqDiff, Nat.reduceAdd, Nat.reduceMul, reduceCtorEq, Nat.reduceLeDiff]
    exact Ends.imp (.inr rfl) (r0 := .tup [.v (.slice none 0 0), .v (.int .i64 4)]) (by simp [ET]) ⟨trivial, trivial, trivial⟩ (nilE 4)
  have e0 : repChk r = if 4096 < r.data.length then 5 else if 64 < r.names.length then 3 else if ∃ s ∈ r.names, 255 < s.size then 5 else 0 := by rw [repChk, if_neg (by omega)]
  by_cases c5 : 4096 < r.data.length
  · have e := bad 5 (by rw [e0, if_pos c5]) (by decide)
    have d5 : ((4096 : Int) < (r.data.length : Int)) := by omega
    simp only [ac_51, aRep, fB, c1, c2, c3, c4, d5, e, TT, ↓reduceIte, Nat.reduceEqDiff, Nat.reduceAdd, Nat.reduceMul, reduceCtorEq, Nat.reduceLeDiff]
    exact Ends.imp (.inr rfl) (r0 := .tup [.v (.slice none 0 0), .v (.int .i64 5)]) (by simp [ET]) ⟨trivial, trivial, trivial⟩ (nilE 5)
  have d5 : ¬ ((4096 : Int) < (r.data.length : Int)) := by omega
  by_cases c6 : 64 < r.names.length
  · have e := bad 3 (by rw [e0, if_neg c5, if_pos c6]) (by decide)
    have d6 : ((64 : Int) < (r.names.length : Int)) := by omega
    simp only [ac_51, aRep, fB, fS, c1, c2, c3, c4, d5, d6, e, TT, ↓reduceIte, Nat.reduceEqDiff, Nat.reduceAdd, Nat.reduceMul, reduceCtorEq, Nat.reduceLeDiff]
    exact Ends.imp (.inr rfl) (r0 := .tup [.v (.slice none 0 0), .v (.int .i64 3)]) (by simp [ET]) ⟨trivial, trivial, trivial⟩ (nilE 3)
  have d6 : ¬ ((64 : Int) < (r.names.length : Int)) := by omega
  have hs := containsS_spec fr r.names
  simp only [fS] at hs
  by_cases c7 : ∃ s ∈ r.names, 255 < s.size
  · have e := bad 5 (by rw [e0, if_neg c5, if_neg c6, if_pos c7]) (by decide)
    have t7 : decide (0 ≤ idxS r.names 0) = true := decide_eq_true ((idxS_pos _ _).2 c7)
    rw [t7] at hs
    simp only [ac_51, aRep, fB, fS, c1, c2, c3, c4, d5, d6, e, TT, ↓reduceIte, Nat.reduceEqDiff, Nat.reduceAdd, Nat.reduceMul, reduceCtorEq, Nat.reduceLeDiff]
    refine ⟨_, hs _ hn, ?_⟩
    simp only [TT, ↓reduceIte, Nat.reduceEqDiff, Nat.reduceAdd, Nat.reduceMul, reduceCtorEq, Nat.reduceLeDiff]
    exact Ends.imp (.inr rfl) (r0 := .tup [.v (.slice none 0 0), .v (.int .i64 5)]) (by simp [ET]) ⟨trivial, trivial, trivial⟩ (nilE 5)
  have t7 : decide (0 ≤ idxS r.names 0) = false := decide_eq_false (fun h => c7 ((idxS_pos _ _).1 h))
  rw [t7] at hs
  have eE : encRep r = encode (repRec r) := by rw [encRep, if_pos (by rw [e0, if_neg c5, if_neg c6, if_neg c7])]
  simp only [ac_51, aRep, fB, fS, c1, c2, c3, c4, d5, d6, TT, ↓reduceIte, Nat.reduceEqDiff, Nat.reduceAdd, Nat.reduceMul, reduceCtorEq, Nat.reduceLeDiff]
  refine ⟨_, hs _ hn, ?_⟩
  simp only [TT, ↓reduceIte, Nat.reduceEqDiff, Nat.reduceAdd, Nat.reduceMul, reduceCtorEq, Nat.reduceLeDiff]
  refine AWc.family (L_er fr r) (fun i => i ≤ r.names.length) (fun i => r.names.length - i) 0 (Nat.zero_le _) ?_ ?_
  · refine Weak.calc [(4500000, 0), (4000000, 1), (4300000, 2)] (by decide) ?_ ?_ <;> simp [WT, al_S, ren_S, fS, eTx]
  · intro i hi
    by_cases hlt : i < r.names.length
    · obtain ⟨s, hx, g1, g0⟩ := lt_at hlt
      have ls := eTx_len fr r hi
      simp only [L_er, fS, g1, g0, get_S hx, Int.toNat_natCast, ls, eTx_s fr r hx, TT, ↓reduceIte, Nat.reduceEqDiff, Nat.reduceAdd, Nat.reduceMul, reduceCtorEq, Nat.reduceLeDiff]
      rw [if_pos (by omega)]
      refine famC_next (i + 1) (by omega) (by omega) ?_
      refine Weak.calc [(0, 0), (1, 1), (900003, 2)] (by decide) ?_ ?_ <;> simp [WT, al_S, ren_S, fS, al_eTx, ren_eTx, wrap64 (x := (i : Int) + 1) (by omega)]
    · obtain rfl : i = r.names.length := by omega
      have g1 : ¬ ((r.names.length : Int) < (r.names.length : Int)) := by omega
      simp only [L_er, fS, g1, eE, TT, ↓reduceIte, Nat.reduceEqDiff, Nat.reduceAdd, Nat.reduceMul, reduceCtorEq, Nat.reduceLeDiff]
      refine ⟨_, encodeR_b fr r h1 h2 _ _ _ (by omega), ?_⟩
      simp only [TT, ↓reduceIte, Nat.reduceEqDiff, Nat.reduceAdd, Nat.reduceMul, reduceCtorEq, Nat.reduceLeDiff]
      exact Ends.data (.inr rfl) (by simp [ET]) ⟨al_fB _, trivial, trivial⟩
end Go.Proofs.YtonglhkiobibgaaGreatDoor
namespace Go.Proofs.YtonglhkiobibgaaGreatDoor
open Go.RowKit
set_option maxRecDepth 100000
structure Ent where
  name : ByteArray
  ino : Int
structure Bk where
  index : Int
  data : List Int
structure Fl where
  size : Int
  blocks : List Bk
structure Nd where
  ino : Int
  dir : Bool
  links : Int
  entries : List Ent
  file : Fl
structure FSt where
  nodes : List Nd
  next : Int
def eEnt (e : Ent) : List AV := [.v (.string e.name), .v (.int .i64 e.ino)]
def eEnts (l : List Ent) : List AV := l.flatMap eEnt
def fEnts (fr : Bool) (l : List Ent) : AV := .fs fr (eEnts l) l.length
def eBk (fr : Bool) (b : Bk) : List AV := [.v (.int .i64 b.index), .fs fr (eB b.data) b.data.length]
def eBks (fr : Bool) (l : List Bk) : List AV := l.flatMap (eBk fr)
def fBks (fr : Bool) (l : List Bk) : AV := .fs fr (eBks fr l) l.length
def eNd (fr : Bool) (n : Nd) : List AV := [.v (.int .i64 n.ino), .v (.bool n.dir), .v (.int .i64 n.links), fEnts fr n.entries, .v (.int .i64 n.file.size), fBks fr n.file.blocks]
def eNds (fr : Bool) (l : List Nd) : List AV := l.flatMap (eNd fr)
def fNds (fr : Bool) (l : List Nd) : AV := .fs fr (eNds fr l) l.length
def aFs (fr : Bool) (s : FSt) : AV := .agg [fNds fr s.nodes, .v (.int .i64 s.next)]
section
variable {fr : Bool} {p : Nat → Prop}
end
/-- the root alone -/
def newF : FSt := ⟨[⟨1, true, 0, [], ⟨0, []⟩⟩], 2⟩
theorem new_spec (nb : Nat) : ASound Tryz.prog 37 [] nb (.ret (aFs true newF) []) := by
  refine ok_37.sound (by simp) trivial ?_
  simp only [ac_37, TT, ↓reduceIte, Nat.reduceEqDiff, Nat.reduceAdd, Nat.reduceMul, reduceCtorEq, Nat.reduceLeDiff]
  refine Ends.weak (Weak.freezeC 200000 rfl (l := [(0, .op 0 0)]) (h := [(0, .row true 28 [.fs true [.v (.int .i64 1), .v (.bool true), .v (.int .i64 0), .v (.slice none 0 0), .v (.int .i64 0), .v (.slice none 0 0)] 1, .v (.int .i64 2)])]) ?_ ?_)
    (Ends.imp (.inr rfl) (r0 := .agg [.fs true [.v (.int .i64 1), .v (.bool true), .v (.int .i64 0), .v (.slice none 0 0), .v (.int .i64 0), .v (.slice none 0 0)] 1, .v (.int .i64 2)]) (by simp [ET]) ⟨⟨trivial, trivial, trivial, trivial, trivial, trivial, trivial⟩, trivial, trivial⟩ ?_)
  · simp [WT]
  · simp [WT]
  · refine Imp.agg rfl (fun j a' hj => ?_)
    match j with
    | 0 =>
      simp [aFs, fNds, eNds, newF, eNd] at hj
      subst hj
      refine ⟨_, rfl, Imp.fs (fun h => h) rfl (fun j a' hj => ?_)⟩
      match j with
      | 0 => simp at hj; subst hj; exact ⟨_, rfl, Imp.refl _⟩
      | 1 => simp at hj; subst hj; exact ⟨_, rfl, Imp.refl _⟩
      | 2 => simp at hj; subst hj; exact ⟨_, rfl, Imp.refl _⟩
      | 3 => simp at hj; subst hj; exact ⟨_, rfl, Imp.nil _⟩
      | 4 => simp at hj; subst hj; exact ⟨_, rfl, Imp.refl _⟩
      | 5 => simp at hj; subst hj; exact ⟨_, rfl, Imp.nil _⟩
      | j + 6 => simp at hj
    | 1 => simp [aFs, newF] at hj; subst hj; exact ⟨_, rfl, Imp.refl _⟩
    | j + 2 => simp [aFs] at hj
end Go.Proofs.YtonglhkiobibgaaGreatDoor
namespace Go.Proofs.YtonglhkiobibgaaGreatDoor
open Go.RowKit
abbrev Ls := List (List Int)
/-- is a log the beginning of another one? -/
def begL (a b : Ls) : Prop := a.length ≤ b.length ∧ a = b.take a.length
instance (a b : Ls) : Decidable (begL a b) := inferInstanceAs (Decidable (_ ∧ _))
/-- how far all agree with one -/
def comGo (logs : List Ls) : Ls → Nat → Nat
  | [], k => k
  | x :: r, k => if ∀ l ∈ logs, l[k]? = some x then comGo logs r (k + 1) else k
def comL : List Ls → Ls
  | [] => []
  | f :: r => f.take (comGo (f :: r) f 0)
theorem comGo_le (logs : List Ls) : ∀ (f : Ls) (k : Nat), k ≤ comGo logs f k ∧ comGo logs f k ≤ k + f.length
  | [], k => by simp [comGo]
  | x :: r, k => by
    rw [comGo]
    split
    · have := comGo_le logs r (k + 1); simp only [List.length_cons]; omega
    · simp
theorem comGo_at (logs : List Ls) : ∀ (f : Ls) (k j : Nat), k ≤ j → j < comGo logs f k → ∀ l ∈ logs, l[j]? = f[j - k]?
  | [], k, j, h1, h2 => by simp [comGo] at h2; omega
  | x :: r, k, j, h1, h2 => by
    rw [comGo] at h2
    split at h2
    · rename_i h
      intro l hl
      by_cases e : j = k
      · subst e; rw [Nat.sub_self]; exact h l hl
      · rw [comGo_at logs r (k + 1) j (by omega) h2 l hl, show j - k = j - (k + 1) + 1 from by omega, List.getElem?_cons_succ]
    · omega
theorem comGo_end (logs : List Ls) : ∀ (f : Ls) (k : Nat), comGo logs f k < k + f.length → ∃ l ∈ logs, l[comGo logs f k]? ≠ f[comGo logs f k - k]?
  | [], k, h => by simp [comGo] at h
  | x :: r, k, h => by
    rw [comGo] at h ⊢
    split
    · rename_i h9
      rw [if_pos h9] at h
      simp only [List.length_cons] at h
      obtain ⟨l, hl, h2⟩ := comGo_end logs r (k + 1) (by omega)
      refine ⟨l, hl, ?_⟩
      have := (comGo_le logs r (k + 1)).1
      rwa [show comGo logs r (k + 1) - k = comGo logs r (k + 1) - (k + 1) + 1 from by omega, List.getElem?_cons_succ]
    · rename_i h9
      rw [Nat.sub_self, List.getElem?_cons_zero]
      exact Classical.byContradiction fun h2 => h9 fun l hl => Classical.byContradiction fun h3 => h2 ⟨l, hl, h3⟩
/-- what all have begins each of them -/
theorem comL_beg {logs : List Ls} {a : Ls} (ha : a ∈ logs) : begL (comL logs) a := by
  match logs, ha with
  | f :: r, ha =>
    have hle := comGo_le (f :: r) f 0
    have hat := comGo_at (f :: r) f 0
    rw [comL]
    generalize comGo (f :: r) f 0 = n at hle hat
    have hn : n ≤ a.length := Classical.byContradiction fun hx => by
      have h1 := hat a.length (Nat.zero_le _) (by omega) a ha
      rw [List.getElem?_eq_none (Nat.le_refl _), Nat.sub_zero, List.getElem?_eq_getElem (by omega)] at h1
      cases h1
    refine ⟨by rw [List.length_take]; omega, ?_⟩
    rw [List.length_take, Nat.min_eq_left (by omega)]
    apply List.ext_getElem?
    intro j
    rw [List.getElem?_take, List.getElem?_take]
    split
    · rename_i hj
      rw [hat j (Nat.zero_le _) hj a ha, Nat.sub_zero]
    · rfl
/-- and no longer list does -/
theorem comL_end {logs : List Ls} {f : Ls} {r : List Ls} (e : logs = f :: r) (h : (comL logs).length < f.length) : ∃ l ∈ logs, l[(comL logs).length]? ≠ f[(comL logs).length]? := by
  subst e
  have hle := comGo_le (f :: r) f 0
  have hl : (comL (f :: r)).length = comGo (f :: r) f 0 := by rw [comL, List.length_take]; omega
  rw [hl] at h ⊢
  have := comGo_end (f :: r) f 0 (by omega)
  rwa [Nat.sub_zero] at this
end Go.Proofs.YtonglhkiobibgaaGreatDoor
