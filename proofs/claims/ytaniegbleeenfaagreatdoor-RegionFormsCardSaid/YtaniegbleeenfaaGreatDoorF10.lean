/-
  A part of the proof of regionForms_card.
-/
import Derived.Test.YtaniegbleeenfaaGreatDoorF9
import Derived.Test.YtaniegbleeenfaaGreatDoorTie
import Derived.Test.YtaniegbleeenfaaGreatDoorCards
import Derived.ChangeSame
import Derived.ChangeVars
import Derived.JoinedOf
import Derived.RowKit
import Derived.RowKitTokens
import Derived.LaidLaws
import Derived.LaidMore
import Derived.LaidSub
import Derived.Stop.Joined
import Derived.Lib.LaidTab
import Derived.Lib.LaidU8
import Derived.Lib.SmallJoins
import Derived.Carry
import Derived.SevenTiedAt
import Derived.Deep.Slices
set_option maxHeartbeats 4000000
set_option maxRecDepth 100000
namespace Go.Proofs.En
open Go.RowKit Go.Proofs.Fl Go.Proofs.Dig
attribute [local irreducible] IntKind.wrap aY be bm bt SW SWr CallOk To
noncomputable def Lb:Code:=match Tryz.f6.body with|some c=>qI (dc (c))|none=>.skip
theorem Wn:runT qJ 100000 0 132 Lb [] [] 0 [(0,24),(1,22),(2,21),(3,6),(4,13),(5,20)] [(1,.w (.one (.ptr 0 0 0)))] [(0,.mem 75 [.iv (.int .i64 2),.iv (.nil 3),.slc 1 0 0 1 (.ex 1)] false [(0,3)] 1),(1,.mem 71 [.slc 2 0 0 3 (.ex 3)] false [(0,1)] 1),(2,.mem 33 [.slc 3 0 0 2 (.ex 2),.slc 4 0 0 2 (.ex 2),.slc 5 0 0 2 (.ex 2)] false [(0,3)] 1),(3,.mem 48 [.qc 0 1 0,.qc 0 1 1,.qc 0 1 2,.qc 0 1 0,.qc 0 1 1,.qc 0 1 2] false [(0,6)] 1),(4,.mem 48 [.qc 1 1 0,.qc 1 1 1,.qc 1 1 2,.qc 0 1 0,.qc 0 1 1,.qc 0 1 2] false [(0,6)] 1),(5,.mem 48 [.qc 0 1 0,.qc 0 1 1,.qc 0 1 2,.qc 1 1 0,.qc 1 1 1,.qc 1 1 2] false [(0,6)] 1)] 6=true:=by kernel_rfl
noncomputable def La:Code:=match Tryz.f6.body with|some c=>qI (dc (dc (c)))|none=>.skip
theorem Wm:runT qJ 100000 0 132 La [(1,.w (.one (.ptr 0 0 0)))] [(0,.mem 75 [.iv (.int .i64 2),.iv (.nil 3),.slc 1 0 0 1 (.ex 1)] false [(0,3)] 1),(1,.mem 71 [.slc 2 0 0 3 (.ex 3)] false [(0,1)] 1),(2,.mem 33 [.slc 3 0 0 2 (.ex 2),.slc 4 0 0 2 (.ex 2),.slc 5 0 0 2 (.ex 2)] false [(0,3)] 1),(3,.mem 48 [.qc 0 1 0,.qc 0 1 1,.qc 0 1 2,.qc 0 1 0,.qc 0 1 1,.qc 0 1 2] false [(0,6)] 1),(4,.mem 48 [.qc 1 1 0,.qc 1 1 1,.qc 1 1 2,.qc 0 1 0,.qc 0 1 1,.qc 0 1 2] false [(0,6)] 1),(5,.mem 48 [.qc 0 1 0,.qc 0 1 1,.qc 0 1 2,.qc 1 1 0,.qc 1 1 1,.qc 1 1 2] false [(0,6)] 1)] 6 [(0,15)] [(2,.w (.one (.ptr 0 0 0))),(3,.w (.one (.iv (.int .i64 0))))] [(0,.mem 48 [.qc 1 12 0,.qc 1 12 1,.qc 1 12 2] false [(0,3)] 1)] 1=true:=by kernel_rfl
noncomputable def K9:Code:=match Tryz.f6.body with|some c=>qI (dc (dc (dc (c))))|none=>.skip
theorem Wl:runT qJ 100000 0 132 K9 [(2,.w (.one (.ptr 0 0 0))),(3,.w (.one (.iv (.int .i64 0))))] [(0,.mem 48 [.qc 1 12 0,.qc 1 12 1,.qc 1 12 2] false [(0,3)] 1)] 1 [(0,0),(1,4)] [(2,.w (.one (.ptr 0 0 0))),(3,.w (.one (.iv (.int .i64 0)))),(4,.w (.one (.ptr 1 0 0)))] [(0,.mem 48 [.qc 1 12 0,.qc 1 12 1,.qc 1 12 2] false [(0,3)] 1),(1,.mem 48 [.qc 1 2 0,.qc 1 2 1,.qc 1 2 2] false [(0,3)] 1)] 2=true:=by kernel_rfl
noncomputable def K8:Code:=match Tryz.f6.body with|some c=>qI (dc (dc (dc (dc (c)))))|none=>.skip
theorem Wj:runT qJ 100000 0 132 K8 [(2,.w (.one (.ptr 0 0 0))),(3,.w (.one (.iv (.int .i64 0)))),(4,.w (.one (.ptr 1 0 0)))] [(0,.mem 48 [.qc 1 12 0,.qc 1 12 1,.qc 1 12 2] false [(0,3)] 1),(1,.mem 48 [.qc 1 2 0,.qc 1 2 1,.qc 1 2 2] false [(0,3)] 1)] 2 [(0,0),(1,15),(2,7033),(3,7039),(4,7049),(5,7080),(6,7111)] [(2,.w (.one (.ptr 0 0 0))),(3,.w (.one (.iv (.int .i64 0)))),(6,.w (.one (.ptr 1 0 0))),(8,.w (.one (.iv (.int .i64 0))))] [(0,.mem 48 [.qc 1 12 0,.qc 1 12 1,.qc 1 12 2] false [(0,3)] 1),(1,.mem 81 [.iv (.int .i64 1),.slc 2 2 0 3 (.fin 1),.slc 3 2 0 3 (.fin 3)] false [(0,3)] 1),(2,.mem 33 [.slc 4 0 0 1 (.fin 3),.slc 5 0 0 1 (.fin 3),.slc 6 0 0 1 (.fin 3)] false [(2,3),(1,2),(0,1)] 3),(3,.mem 48 [.qc 1 6 0,.qc 1 6 1,.qc 1 6 2,.qc 2 3 0,.qc 2 3 1,.qc 2 3 2,.qc 1 6 0,.qc 1 6 1,.qc 1 6 2] false [(2,9),(1,6),(0,3)] 3),(4,.mem 48 [.qc 0 1 0,.qc 0 1 1,.qc 0 1 2] false [(0,3)] 1),(5,.mem 48 [.qc 1 2 0,.qc 1 2 1,.qc 1 2 2] false [(0,3)] 1),(6,.mem 48 [.qc 1 1 0,.qc 1 1 1,.qc 1 1 2] false [(0,3)] 1)] 7=true:=by kernel_rfl
noncomputable def K7:Code:=match Tryz.f6.body with|some c=>qI (dc (dc (dc (dc (dc (c))))))|none=>.skip
theorem Wi:runT qJ 100000 0 132 K7 [(2,.w (.one (.ptr 0 0 0))),(3,.w (.one (.iv (.int .i64 0)))),(6,.w (.one (.ptr 1 0 0))),(8,.w (.one (.iv (.int .i64 0))))] [(0,.mem 48 [.qc 1 12 0,.qc 1 12 1,.qc 1 12 2] false [(0,3)] 1),(1,.mem 81 [.iv (.int .i64 1),.slc 2 2 0 3 (.fin 1),.slc 3 2 0 3 (.fin 3)] false [(0,3)] 1),(2,.mem 33 [.slc 4 0 0 1 (.fin 3),.slc 5 0 0 1 (.fin 3),.slc 6 0 0 1 (.fin 3)] false [(2,3),(1,2),(0,1)] 3),(3,.mem 48 [.qc 1 6 0,.qc 1 6 1,.qc 1 6 2,.qc 2 3 0,.qc 2 3 1,.qc 2 3 2,.qc 1 6 0,.qc 1 6 1,.qc 1 6 2] false [(2,9),(1,6),(0,3)] 3),(4,.mem 48 [.qc 0 1 0,.qc 0 1 1,.qc 0 1 2] false [(0,3)] 1),(5,.mem 48 [.qc 1 2 0,.qc 1 2 1,.qc 1 2 2] false [(0,3)] 1),(6,.mem 48 [.qc 1 1 0,.qc 1 1 1,.qc 1 1 2] false [(0,3)] 1)] 7 [(0,0),(1,1),(2,4268),(3,2),(4,3),(5,4474),(6,4496),(7,4),(8,5),(9,6)] [(2,.w (.one (.ptr 0 0 0))),(3,.w (.one (.iv (.int .i64 0)))),(6,.w (.one (.ptr 1 0 0))),(8,.w (.one (.iv (.int .i64 0)))),(10,.w (.one (.slc 2 2 0 2 (.fin 4)))),(11,.w (.one (.iv (.int .i64 14))))] [(0,.mem 48 [.qc 1 12 0,.qc 1 12 1,.qc 1 12 2] false [(0,3)] 1),(1,.mem 81 [.iv (.int .i64 1),.slc 3 2 0 3 (.fin 1),.slc 4 2 0 3 (.fin 3)] false [(0,3)] 1),(2,.mem 78 [.slc 5 0 0 1 (.fin 1),.qc (-1) 1 0,.qc (-1) 1 1,.qc (-1) 1 2,.slc 6 0 0 1 (.fin 1),.qc 1 1 0,.qc 1 1 1,.qc 1 1 2,.iv (.nil 3),.qc 0 1 0,.qc 0 1 1,.qc 0 1 2] false [(2,12),(1,0),(0,0)] 3),(3,.mem 33 [.slc 7 0 0 1 (.fin 3),.slc 8 0 0 1 (.fin 3),.slc 9 0 0 1 (.fin 3)] false [(2,3),(1,2),(0,1)] 3),(4,.mem 48 [.qc 1 6 0,.qc 1 6 1,.qc 1 6 2,.qc 2 3 0,.qc 2 3 1,.qc 2 3 2,.qc 1 6 0,.qc 1 6 1,.qc 1 6 2] false [(2,9),(1,6),(0,3)] 3),(5,.mem 3 [.iv (.int .i64 1)] false [(0,1)] 1),(6,.mem 3 [.iv (.int .i64 2)] false [(0,1)] 1),(7,.mem 48 [.qc 0 1 0,.qc 0 1 1,.qc 0 1 2] false [(0,3)] 1),(8,.mem 48 [.qc 1 2 0,.qc 1 2 1,.qc 1 2 2] false [(0,3)] 1),(9,.mem 48 [.qc 1 1 0,.qc 1 1 1,.qc 1 1 2] false [(0,3)] 1)] 10=true:=by kernel_rfl
noncomputable def K6:Code:=match Tryz.f6.body with|some c=>qI (dc (dc (dc (dc (dc (dc (c)))))))|none=>.skip
theorem Wh:runT qJ 100000 0 132 K6 [(2,.w (.one (.ptr 0 0 0))),(3,.w (.one (.iv (.int .i64 0)))),(6,.w (.one (.ptr 1 0 0))),(8,.w (.one (.iv (.int .i64 0)))),(10,.w (.one (.slc 2 2 0 2 (.fin 4)))),(11,.w (.one (.iv (.int .i64 14))))] [(0,.mem 48 [.qc 1 12 0,.qc 1 12 1,.qc 1 12 2] false [(0,3)] 1),(1,.mem 81 [.iv (.int .i64 1),.slc 3 2 0 3 (.fin 1),.slc 4 2 0 3 (.fin 3)] false [(0,3)] 1),(2,.mem 78 [.slc 5 0 0 1 (.fin 1),.qc (-1) 1 0,.qc (-1) 1 1,.qc (-1) 1 2,.slc 6 0 0 1 (.fin 1),.qc 1 1 0,.qc 1 1 1,.qc 1 1 2,.iv (.nil 3),.qc 0 1 0,.qc 0 1 1,.qc 0 1 2] false [(2,12),(1,0),(0,0)] 3),(3,.mem 33 [.slc 7 0 0 1 (.fin 3),.slc 8 0 0 1 (.fin 3),.slc 9 0 0 1 (.fin 3)] false [(2,3),(1,2),(0,1)] 3),(4,.mem 48 [.qc 1 6 0,.qc 1 6 1,.qc 1 6 2,.qc 2 3 0,.qc 2 3 1,.qc 2 3 2,.qc 1 6 0,.qc 1 6 1,.qc 1 6 2] false [(2,9),(1,6),(0,3)] 3),(5,.mem 3 [.iv (.int .i64 1)] false [(0,1)] 1),(6,.mem 3 [.iv (.int .i64 2)] false [(0,1)] 1),(7,.mem 48 [.qc 0 1 0,.qc 0 1 1,.qc 0 1 2] false [(0,3)] 1),(8,.mem 48 [.qc 1 2 0,.qc 1 2 1,.qc 1 2 2] false [(0,3)] 1),(9,.mem 48 [.qc 1 1 0,.qc 1 1 1,.qc 1 1 2] false [(0,3)] 1)] 10 [(0,0),(1,1),(2,2),(3,5184),(4,3),(5,4),(6,5),(7,6),(8,4597),(9,7),(10,8),(11,9),(12,4552),(13,5023),(14,5130),(15,4549),(16,4567),(17,4585),(18,5020),(19,5038),(20,5056),(21,5127),(22,5145),(23,5163)] [(2,.w (.one (.ptr 0 0 0))),(3,.w (.one (.iv (.int .i64 0)))),(6,.w (.one (.ptr 1 0 0))),(8,.w (.one (.iv (.int .i64 0)))),(10,.w (.one (.slc 2 2 0 2 (.fin 4)))),(11,.w (.one (.iv (.int .i64 14)))),(12,.w (.one (.ptr 3 0 0))),(13,.w (.one (.iv (.int .i64 0))))] [(0,.mem 48 [.qc 1 12 0,.qc 1 12 1,.qc 1 12 2] false [(0,3)] 1),(1,.mem 81 [.iv (.int .i64 1),.slc 4 2 0 3 (.fin 1),.slc 5 2 0 3 (.fin 3)] false [(0,3)] 1),(2,.mem 78 [.slc 6 0 0 1 (.fin 1),.qc (-1) 1 0,.qc (-1) 1 1,.qc (-1) 1 2,.slc 7 0 0 1 (.fin 1),.qc 1 1 0,.qc 1 1 1,.qc 1 1 2,.iv (.nil 3),.qc 0 1 0,.qc 0 1 1,.qc 0 1 2] false [(2,12),(1,0),(0,0)] 3),(3,.mem 75 [.iv (.int .i64 2),.iv (.nil 3),.slc 8 2 0 3 (.fin 1)] false [(0,3)] 1),(4,.mem 33 [.slc 9 0 0 1 (.fin 3),.slc 10 0 0 1 (.fin 3),.slc 11 0 0 1 (.fin 3)] false [(2,3),(1,2),(0,1)] 3),(5,.mem 48 [.qc 1 6 0,.qc 1 6 1,.qc 1 6 2,.qc 2 3 0,.qc 2 3 1,.qc 2 3 2,.qc 1 6 0,.qc 1 6 1,.qc 1 6 2] false [(2,9),(1,6),(0,3)] 3),(6,.mem 3 [.iv (.int .i64 1)] false [(0,1)] 1),(7,.mem 3 [.iv (.int .i64 2)] false [(0,1)] 1),(8,.mem 71 [.slc 12 2 0 3 (.fin 1),.slc 13 2 0 3 (.fin 1),.slc 14 2 0 3 (.fin 1)] false [(2,3),(1,2),(0,1)] 3),(9,.mem 48 [.qc 0 1 0,.qc 0 1 1,.qc 0 1 2] false [(0,3)] 1),(10,.mem 48 [.qc 1 2 0,.qc 1 2 1,.qc 1 2 2] false [(0,3)] 1),(11,.mem 48 [.qc 1 1 0,.qc 1 1 1,.qc 1 1 2] false [(0,3)] 1),(12,.mem 33 [.slc 15 0 0 2 (.fin 3),.slc 16 0 0 2 (.fin 3),.slc 17 0 0 2 (.fin 3)] false [(2,3),(1,2),(0,1)] 3),(13,.mem 33 [.slc 18 0 0 2 (.fin 3),.slc 19 0 0 2 (.fin 3),.slc 20 0 0 2 (.fin 3)] false [(2,3),(1,2),(0,1)] 3),(14,.mem 33 [.slc 21 0 0 2 (.fin 3),.slc 22 0 0 2 (.fin 3),.slc 23 0 0 2 (.fin 3)] false [(2,3),(1,2),(0,1)] 3),(15,.mem 48 [.qc 0 1 0,.qc 0 1 1,.qc 0 1 2,.qc 0 1 0,.qc 0 1 1,.qc 0 1 2] false [(0,6)] 1),(16,.mem 48 [.qc 2 1 0,.qc 2 1 1,.qc 2 1 2,.qc 0 1 0,.qc 0 1 1,.qc 0 1 2] false [(0,6)] 1),(17,.mem 48 [.qc 1 1 0,.qc 1 1 1,.qc 1 1 2,.qc 1 1 0,.qc 1 1 1,.qc 1 1 2] false [(0,6)] 1),(18,.mem 48 [.qc 0 1 0,.qc 0 1 1,.qc 0 1 2,.qc 2 1 0,.qc 2 1 1,.qc 2 1 2] false [(0,6)] 1),(19,.mem 48 [.qc 0 1 0,.qc 0 1 1,.qc 0 1 2,.qc 0 1 0,.qc 0 1 1,.qc 0 1 2] false [(0,6)] 1),(20,.mem 48 [.qc 1 1 0,.qc 1 1 1,.qc 1 1 2,.qc 1 1 0,.qc 1 1 1,.qc 1 1 2] false [(0,6)] 1),(21,.mem 48 [.qc 1 1 0,.qc 1 1 1,.qc 1 1 2,.qc 1 1 0,.qc 1 1 1,.qc 1 1 2] false [(0,6)] 1),(22,.mem 48 [.qc 2 1 0,.qc 2 1 1,.qc 2 1 2,.qc 2 1 0,.qc 2 1 1,.qc 2 1 2] false [(0,6)] 1),(23,.mem 48 [.qc 0 1 0,.qc 0 1 1,.qc 0 1 2,.qc 2 1 0,.qc 2 1 1,.qc 2 1 2] false [(0,6)] 1)] 24=true:=by kernel_rfl
noncomputable def K4:Code:=match Tryz.f6.body with|some c=>qI (dc (dc (dc (dc (dc (dc (dc (c))))))))|none=>.skip
theorem Wg:runT qJ 100000 0 132 K4 [(2,.w (.one (.ptr 0 0 0))),(3,.w (.one (.iv (.int .i64 0)))),(6,.w (.one (.ptr 1 0 0))),(8,.w (.one (.iv (.int .i64 0)))),(10,.w (.one (.slc 2 2 0 2 (.fin 4)))),(11,.w (.one (.iv (.int .i64 14)))),(12,.w (.one (.ptr 3 0 0))),(13,.w (.one (.iv (.int .i64 0))))] [(0,.mem 48 [.qc 1 12 0,.qc 1 12 1,.qc 1 12 2] false [(0,3)] 1),(1,.mem 81 [.iv (.int .i64 1),.slc 4 2 0 3 (.fin 1),.slc 5 2 0 3 (.fin 3)] false [(0,3)] 1),(2,.mem 78 [.slc 6 0 0 1 (.fin 1),.qc (-1) 1 0,.qc (-1) 1 1,.qc (-1) 1 2,.slc 7 0 0 1 (.fin 1),.qc 1 1 0,.qc 1 1 1,.qc 1 1 2,.iv (.nil 3),.qc 0 1 0,.qc 0 1 1,.qc 0 1 2] false [(2,12),(1,0),(0,0)] 3),(3,.mem 75 [.iv (.int .i64 2),.iv (.nil 3),.slc 8 2 0 3 (.fin 1)] false [(0,3)] 1),(4,.mem 33 [.slc 9 0 0 1 (.fin 3),.slc 10 0 0 1 (.fin 3),.slc 11 0 0 1 (.fin 3)] false [(2,3),(1,2),(0,1)] 3),(5,.mem 48 [.qc 1 6 0,.qc 1 6 1,.qc 1 6 2,.qc 2 3 0,.qc 2 3 1,.qc 2 3 2,.qc 1 6 0,.qc 1 6 1,.qc 1 6 2] false [(2,9),(1,6),(0,3)] 3),(6,.mem 3 [.iv (.int .i64 1)] false [(0,1)] 1),(7,.mem 3 [.iv (.int .i64 2)] false [(0,1)] 1),(8,.mem 71 [.slc 12 2 0 3 (.fin 1),.slc 13 2 0 3 (.fin 1),.slc 14 2 0 3 (.fin 1)] false [(2,3),(1,2),(0,1)] 3),(9,.mem 48 [.qc 0 1 0,.qc 0 1 1,.qc 0 1 2] false [(0,3)] 1),(10,.mem 48 [.qc 1 2 0,.qc 1 2 1,.qc 1 2 2] false [(0,3)] 1),(11,.mem 48 [.qc 1 1 0,.qc 1 1 1,.qc 1 1 2] false [(0,3)] 1),(12,.mem 33 [.slc 15 0 0 2 (.fin 3),.slc 16 0 0 2 (.fin 3),.slc 17 0 0 2 (.fin 3)] false [(2,3),(1,2),(0,1)] 3),(13,.mem 33 [.slc 18 0 0 2 (.fin 3),.slc 19 0 0 2 (.fin 3),.slc 20 0 0 2 (.fin 3)] false [(2,3),(1,2),(0,1)] 3),(14,.mem 33 [.slc 21 0 0 2 (.fin 3),.slc 22 0 0 2 (.fin 3),.slc 23 0 0 2 (.fin 3)] false [(2,3),(1,2),(0,1)] 3),(15,.mem 48 [.qc 0 1 0,.qc 0 1 1,.qc 0 1 2,.qc 0 1 0,.qc 0 1 1,.qc 0 1 2] false [(0,6)] 1),(16,.mem 48 [.qc 2 1 0,.qc 2 1 1,.qc 2 1 2,.qc 0 1 0,.qc 0 1 1,.qc 0 1 2] false [(0,6)] 1),(17,.mem 48 [.qc 1 1 0,.qc 1 1 1,.qc 1 1 2,.qc 1 1 0,.qc 1 1 1,.qc 1 1 2] false [(0,6)] 1),(18,.mem 48 [.qc 0 1 0,.qc 0 1 1,.qc 0 1 2,.qc 2 1 0,.qc 2 1 1,.qc 2 1 2] false [(0,6)] 1),(19,.mem 48 [.qc 0 1 0,.qc 0 1 1,.qc 0 1 2,.qc 0 1 0,.qc 0 1 1,.qc 0 1 2] false [(0,6)] 1),(20,.mem 48 [.qc 1 1 0,.qc 1 1 1,.qc 1 1 2,.qc 1 1 0,.qc 1 1 1,.qc 1 1 2] false [(0,6)] 1),(21,.mem 48 [.qc 1 1 0,.qc 1 1 1,.qc 1 1 2,.qc 1 1 0,.qc 1 1 1,.qc 1 1 2] false [(0,6)] 1),(22,.mem 48 [.qc 2 1 0,.qc 2 1 1,.qc 2 1 2,.qc 2 1 0,.qc 2 1 1,.qc 2 1 2] false [(0,6)] 1),(23,.mem 48 [.qc 0 1 0,.qc 0 1 1,.qc 0 1 2,.qc 2 1 0,.qc 2 1 1,.qc 2 1 2] false [(0,6)] 1)] 24 [] [(0,.w (.one (.iv (.bool true))))] [] 0=true:=by kernel_rfl
theorem P9{J:Keep}(L:LibI J):C J 6 [] (.bool true):=by
 refine C8 (X:=XE J) J.bel (xs:=[]) Tryz.func6 rfl rfl rfl rfl 0 ?_;refine SW.RS (by kernel_rfl) ?_;conv=>whnf
 refine SW.to (s':=ba [] [] 0) (To.tab [] trivial trivial rfl) ?_;refine pe (x:=Lb) (mS rfl) (pF L) Wn ?_;refine pe (x:=La) (mS rfl) (pF L) Wm ?_;refine pe (x:=K9) (mS rfl) (pF L) Wl ?_;refine pe (x:=K8) (mS rfl) (pF L) Wj ?_;refine pe (x:=K7) (mS rfl) (pF L) Wi ?_;refine pe (x:=K6) (mS rfl) (pF L) Wh ?_;refine pe (x:=K4) (mS rfl) (pF L) Wg ?_;refine SW.ret ?_;rfl
end Go.Proofs.En
namespace Go.Proofs.Fl
open Go.RowKit Go.Proofs.Dig
attribute [local irreducible] IntKind.wrap aY be bm bt
open Go.Proofs.En (aR bg uM evS ip gG Cw Cv TimOk tQ tO gI)
open Go.Proofs.Reg (Tm aN Hb bw bk)
def fC(l:List eQ):List Tm:=l.map fun t=>(t.1,t.2.q)
theorem Iq{x:Num3}(h:x.tame=true):Hb 14 x.q:=by
 unfold Num3.tame at h;simp only[eF,MJ,MV,Decidable.not_not] at h;obtain⟨⟨⟨⟨h1,h2⟩,h3⟩,h4⟩,h5⟩:=h;show Hb 14 (oi x.n x.d^(x.p%4+1));rw[h1,A5];unfold oi;obtain⟨D,hD⟩:∃D:Int,(if x.d=0 then 1 else x.d:Int)=D:=⟨_,rfl⟩;have hD0:D≠0/\D<=9999/\ -9999<=D:=by rw[<-hD];split<;>omega
 rw[hD,<-En.Kb];refine Hb.mk (by omega) ?_ (by omega);have:(En.pU D x.n).natAbs=x.n.natAbs:=by
  unfold En.pU;split<;>omega
 omega
theorem Ix:∀{p:List Int},(∀k∈p,0<=k/\k<=24)->fD p=sumI p
 | [],_=>rfl
 |k::p,h=>by
  have h1:=h k kp;have h2:kh k=k:=by unfold kh;split<;>split<;>omega
  show kh k+fD p=k+sumI p;rw[h2,Ix fun x hx=>h x (dx _ hx)]
theorem rY{l:List eQ}(h:io l=true):l.length<=520/\(l.length<=6\/500<l.length)/\∀t∈l,t.1.length<=8/\t.2.tame=true/\gW (fD t.1)=false:=by
 unfold io at h;simp only[aC,d9,eF,fO] at h;obtain⟨⟨h1,h2⟩,h3⟩:=h;refine⟨h1,h3,fun t ht=>?_⟩;rw[zr] at h2;have h4:=h2 t ht;unfold qu at h4;simp only[fO,d9,s9,eF,DW,Bool.not_eq_false] at h4;exact⟨by omega,h4.1.1.2,h4.2⟩
structure PolOk(n:Int)(f:List Tm):Prop where
 v:bg n f=true
 len:f.length<=6
 hb:∀t∈f,Hb 14 t.2
 deg:cY f<=8
 nok:m4 f
 tm:∀t∈f,(t.1.length:Int)=n/\bq t.1<=96/\∀k∈t.1,0<=k/\k<=24
theorem Hf{f:List Tm}{j:Nat}(h:∀t∈f,Hb j t.2)(hs:f.length*(j+1)<2^34)(hj:j<2^34):m4 f:=by
 refine⟨fun t ht=>by have:=mX (h t ht);omega,fun i hi o ho=>?_⟩;have h1:=mX (Reg.S8 (fun t ht=>h t (dH ht)) o ho);have h2:(f.take i).length*(j+1)<=f.length*(j+1):=bW _ (by simp;omega);omega
theorem J5{n:Int}{l:List eQ}(h:io l=true)(hv:bg n (fC l)=true):PolOk n (fC l):=by
 obtain⟨h1,h2,h3⟩:=rY h;obtain⟨v1,v2,v3,v4⟩:=fj hv;have hl:(fC l).length=l.length:=by simp[fC]
 have hb:∀t∈fC l,Hb 14 t.2:=fun t ht=>by
  obtain⟨y,hy,rfl⟩:=List.mem_map.1 ht;exact Iq (h3 y hy).2.1
 have hl6:(fC l).length<=6:=by omega
 refine⟨hv,hl6,hb,?_,Hf hb (by omega) (by decide),fun t ht=>⟨(v4 t ht).1,(v4 t ht).2.2.2,tQ hv t ht⟩⟩;have hkeys:∀t∈aN (fC l),∃y∈fC l,t.1=y.1:=fun t ht=>by
  have:=Reg.pj (f:=fC l) (fC l).length (ak _);rw[cU] at this;exact this t (List.mem_filter.1 ((Reg.nN (n:=n.toNat) fun t ht=>by have:=(v4 t ht).1;omega).1.mem_iff.1 ht)).1
 unfold cY;cases e:(aN (fC l)).getLast? with
 |none=>show(-1:Int)<=8;omega
 |some t=>
  obtain⟨y,hy,ey⟩:=hkeys t (List.mem_of_getLast? e);show sumI t.1<=8;have h5:=(v4 y hy).2.2.1;obtain⟨z,hz,rfl⟩:=List.mem_map.1 hy;have h6:=(h3 z hz).2.2;rw[Ix (p:=z.1) (tQ hv _ hy)] at h6;have h5:sumI z.1<=24:=h5;unfold gW at h6;simp only[Bool.and_eq_false_iff,MV] at h6;rw[ey];show sumI z.1<=8;omega
theorem Js{n:Int}{f:List Tm}(h:PolOk n f):gI (cY f)<=8:=by
 have:=h.deg;unfold gI;split<;>omega
theorem Br{n:Int}{f:List Tm}(h:PolOk n f):(aN f).length<=6/\∀o∈aN f,Hb 90 o.2 :=
 ⟨aP (tO h.v).1 h.len,fun o ho=>(Reg.JA h.hb o ho).mono (by have:=h.len;omega)⟩
theorem Uc{n:Int}{f g:List Tm}(hf:PolOk n f)(hg:PolOk n g):TimOk n f g:=by
 obtain⟨a1,a2⟩:=Br hf;obtain⟨b1,b2⟩:=Br hg;refine⟨hf.v,hg.v,hf.nok,hg.nok,by have:=hf.deg;omega,by have:=hg.deg;omega,?_,fun a ha=>by have:=mX (a2 a ha);omega,fun b hb=>by have:=mX (b2 b hb);omega⟩;refine Hf (j:=180) (fun t ht=>?_) ?_ (by decide)
 . obtain⟨a,ha,b,hb,rfl⟩:=Reg.pf ht;exact(a2 a ha).mul (b2 b hb)
 . rw[Reg.ru];have:=ff a1 b1;omega
end Go.Proofs.Fl
namespace Go.Proofs.Fl
open Go.RowKit Go.Proofs.Dig
attribute [local irreducible] IntKind.wrap aY be bm bt
open Go.Proofs.En (aR bg Cw Cv)
open Go.Proofs.Reg (Tm aN Hb bw)
noncomputable def vj(n d:Int)(a b c:Bool)(FR GR CF TF:IV)(v:Rat)(YS:List IV):AS:=am [(0,.iv (.int .i64 n)),(10,.iv FR),(12,.iv GR),(14,.iv (.sl YS)),(15,.iv (bif b then CF else .sl [])),(16,.iv (.int .i64 (bif b then 0 else 2))),(17,.iv (.int .i64 (bif b then d else 0))),(18,.iv (.int .i64 (bif b then 0 else 2))),(19,.ptr 0 0),(20,.iv (.int .i64 (bif a then 0 else 2))),(21,.iv (bif b&&c then TF else .sl [])),(22,.iv (.int .i64 (bif b&&c then 0 else 2)))] [(0,.var (qr (bif a then v else 0)))] 40
theorem OD{J:Keep}{n d:Int}{a b c:Bool}{PL PM F G FR GR X VR CF CR TF TR:IV}{v:Rat}{XS YS:List IV}(hx:XS.length<=8)
 (cw:C J 6 [] (.bool true)) (c1:C J 4 [PL] (.bool true)) (c2:C J 4 [PM] (.bool true)) (c3:C J 5 [.sl XS] (.bool true))
 (c4:C J 7 [PL] (.tup [F,FR])) (d4:C J 7 [PM] (.tup [G,GR])) (c0:C J 8 [.sl XS] (.tup [X,.sl YS]))
 (c5:C J 9 [.int .i64 n,F] (.tup [bif b then CF else .sl [],.int .i64 (bif b then 0 else 2)]))
 (c6:C J 10 [.int .i64 n,F] (.tup [.int .i64 (bif b then d else 0),.int .i64 (bif b then 0 else 2)]))
 (c7:C J 11 [F,X] (.tup [qr (bif a then v else 0),.int .i64 (bif a then 0 else 2)]))
 (c8:C J 12 [.int .i64 n,F,G] (.tup [bif b&&c then TF else .sl [],.int .i64 (bif b&&c then 0 else 2)]))
 (c9:C J 13 [.int .i64 (YS.length:Int),FR] (.bool a)) (c10:C J 13 [.int .i64 n,FR] (.bool b)) (c11:C J 13 [.int .i64 n,GR] (.bool c))
 (c12:a=true->C J 15 [FR,.sl YS] VR/\C J 14 [qr v,VR] (.bool true)) (c14:C J 16 [qr 0] (.int .i64 0))
 (c15:b=true->C J 18 [FR] CR/\C J 17 [CF,CR] (.bool true)/\C J 19 [FR] (.int .i64 d))
 (c18:b=true->c=true->C J 20 [FR,GR] TR/\C J 17 [TF,TR] (.bool true)) :
 C J 3 [.int .i64 n,PL,PM,.sl XS] (.bool true):=by
 refine aI Tryz.func3 rfl rfl rfl ?_;repeat (first|(refine Vm (id:=8) (Y':=am [(0,.iv (.int .i64 n)),(9,.iv F),(10,.iv FR),(11,.iv G),(12,.iv GR),(13,.iv X),(14,.iv (.sl YS)),(15,.iv (bif b then CF else .sl [])),(16,.iv (.int .i64 (bif b then 0 else 2))),(17,.iv (.int .i64 (bif b then d else 0))),(18,.iv (.int .i64 (bif b then 0 else 2)))] [] 20) (Wk.tab [] ⟨aa,aa,aa,aa,aa,aa,aa,aa,aa,aa,aa,ab⟩ trivial rfl) (by kernel_rfl) ?_;conv=>whnf)|(refine W.weak (Y':=vj n d a b c FR GR CF TF v YS) (Wk.tab [(0,26)] ⟨aa,aa,aa,aa,aa,aa,aa,aa,aa,aa,aa,aa,ab⟩ ⟨rfl,ab⟩ rfl) (W.join (x:=.seq (.region 10 _ _) _) (G:=Unit) (fun _=>vj n d a b c FR GR CF TF v YS) ?_ (fun _=>?_));unfold vj)|((first|refine W.R (by kernel_rfl) ?_|refine W.c rfl ?_|refine⟨_,c1,?_⟩|refine⟨_,c2,?_⟩|refine⟨_,c3,?_⟩|refine⟨_,c4,?_⟩|refine⟨_,d4,?_⟩|refine⟨_,c0,?_⟩|refine⟨_,c5,?_⟩|refine⟨_,c6,?_⟩|refine⟨_,c7,?_⟩|refine⟨_,c8,?_⟩|refine⟨_,c9,?_⟩|refine xF (by omega) ?_|refine⟨_,rfl,?_⟩|refine xr ?_|refine xA ?_);conv=>whnf))
 . cases a with
   |true=>
    obtain⟨k1,k2⟩:=c12 rfl;repeat (first|((first|refine W.RS (by kernel_rfl) ?_|refine W.skip ?_|refine⟨_,k1,?_⟩|refine⟨_,k2,?_⟩|refine⟨_,rfl,?_⟩|refine xr ?_|refine xA ?_);conv=>whnf)|(refine W.condF rfl ?_)|(refine W.condT rfl ?_))
    exact⟨(),Wk.tab [] ⟨aa,aa,aa,aa,aa,aa,aa,aa,aa,aa,aa,aa,ab⟩ ⟨rfl,ab⟩ rfl⟩
   |false=>
    repeat (first|((first|refine W.RS (by kernel_rfl) ?_|refine W.skip ?_|refine⟨_,c14,?_⟩|refine⟨false,bne_eq_false_iff_eq.2 (by omega),?_⟩|refine⟨_,rfl,?_⟩|refine xr ?_|refine xA ?_);conv=>whnf)|(refine W.condF rfl ?_))
    exact⟨(),Wk.tab [] ⟨aa,aa,aa,aa,aa,aa,aa,aa,aa,aa,aa,aa,ab⟩ ⟨rfl,ab⟩ rfl⟩
 . show W J _ _ (vj n d a b c FR GR CF TF v YS) _;unfold vj;cases b with
   |false=>
    have h1:(bif false then(0:Int) else 2)=2:=rfl;have h2:(bif false&&c then(0:Int) else 2)=2:=rfl;have h3:(bif false then d else 0)=0:=rfl;have h4:IntKind.i64.wrap (((([]:List IV).length:Nat):Int)+((([]:List IV).length:Nat):Int))=0:=b7 (by simp);repeat (((first|refine W.R (by kernel_rfl) ?_|refine W.c rfl ?_|refine⟨_,c10,?_⟩|refine⟨_,cw,?_⟩|refine⟨_,h4,?_⟩|refine xT (by omega) ?_|refine⟨_,rfl,?_⟩|refine xr ?_|refine xB ?_);conv=>whnf))
    rfl
   |true=>
    obtain⟨k3,k4,k5⟩:=c15 rfl;have h1:(bif true then(0:Int) else 2)=0:=rfl;have h3:(bif true then d else 0)=d:=rfl;cases c with
    |true=>
     obtain⟨k6,k7⟩:=c18 rfl rfl;have h2:(bif true&&true then(0:Int) else 2)=0:=rfl;repeat (((first|refine W.R (by kernel_rfl) ?_|refine W.c rfl ?_|refine⟨_,c10,?_⟩|refine⟨_,c11,?_⟩|refine⟨_,k3,?_⟩|refine⟨_,k4,?_⟩|refine⟨_,k5,?_⟩|refine⟨_,k6,?_⟩|refine⟨_,k7,?_⟩|refine⟨_,cw,?_⟩|refine xT (by omega) ?_|refine⟨false,bne_eq_false_iff_eq.2 (by omega),?_⟩|refine⟨_,rfl,?_⟩|refine xr ?_|refine xA ?_|refine xB ?_);conv=>whnf))
     rfl
    |false=>
     have h2:(bif true&&false then(0:Int) else 2)=2:=rfl;repeat (((first|refine W.R (by kernel_rfl) ?_|refine W.c rfl ?_|refine⟨_,c10,?_⟩|refine⟨_,c11,?_⟩|refine⟨_,k3,?_⟩|refine⟨_,k4,?_⟩|refine⟨_,k5,?_⟩|refine⟨_,cw,?_⟩|refine xT (by omega) ?_|refine⟨true,beq_iff_eq.2 (by omega),?_⟩|refine⟨false,bne_eq_false_iff_eq.2 (by omega),?_⟩|refine⟨_,rfl,?_⟩|refine xr ?_|refine xA ?_|refine xB ?_);conv=>whnf))
     rfl
theorem RR(J:Keep)(L:LibI J){n:Int}{f:List Tm}(h:PolOk n f):C J 18 [.sl (f.map aF)] (.sl ((aN f).map aF))/\C J 17 [aR (aN f),.sl ((aN f).map aF)] (.bool true)/\C J 19 [.sl (f.map aF)] (.int .i64 (cY f)):=by
 have hp:∀t∈f,t.1.length=n.toNat/\bq t.1<2^62:=fun t ht=>by
  obtain⟨h1,h2,_⟩:=h.tm t ht;exact⟨by omega,by omega⟩
 have hn:=(fj h.v).2.1;have hl:=h.len;obtain⟨a1,a2⟩:=Br h;refine⟨CT J (n:=n.toNat) (j:=14) (by omega) (by omega) hp h.hb (by omega),ID L (by omega) (fun t ht=>⟨?_,?_⟩),Uo J (n:=n.toNat) (j:=14) (by omega) (by omega) hp h.hb (by omega)⟩
 . have:=((En.tO h.v).2 t ht).1;omega
 . have:=jP (a2 t ht);omega
theorem Sk(J:Keep)(L:LibI J){n:Int}{f g:List Tm}(hf:PolOk n f)(hg:PolOk n g):C J 20 [.sl (f.map aF),.sl (g.map aF)] (.sl ((aN (bw f g)).map aF))/\C J 17 [aR (aN (bw f g)),.sl ((aN (bw f g)).map aF)] (.bool true):=by
 obtain⟨v1,v2,_,_⟩:=fj hf.v;have h1:∀{f:List Tm},PolOk n f->∀t∈f,t.1.length=n.toNat/\∀k∈t.1,0<=k/\k<=24:=fun h t ht=>by
  obtain⟨h1,_,h2⟩:=h.tm t ht;exact⟨by omega,h2⟩
 have hp:∀t∈bw f g,t.1.length=n.toNat:=Reg.BN (fun t ht=>(h1 hf t ht).1) (fun t ht=>(h1 hg t ht).1);have hpl:(bw f g).length<=36:=by rw[Reg.ru];exact ff hf.len hg.len
 have hcl:(aN (bw f g)).length<=36:=by
  rw[(Reg.nN hp).1.length_eq];exact aP (oV _ _) (aP (Reg.pv _) hpl)
 refine⟨Um J (n:=n.toNat) (j:=14) (by have:=hf.len;omega) (by have:=hg.len;omega) (by have:=ff hf.len hg.len;omega) (by omega) (by omega) (h1 hf) (h1 hg) hf.hb hg.hb (by omega),ID L (by omega) (fun t ht=>⟨?_,?_⟩)⟩
 . rw[(Reg.ug hp).2.1 t ht];omega
 . have:=jP (Reg.JA (j:=28) (fun t ht=>by
    obtain⟨a,ha,b,hb,rfl⟩:=Reg.pf ht;exact(hf.hb a ha).mul (hg.hb b hb)) t ht)
   omega
theorem UH{J:Keep}(L:LibI J){n:Int}{l m:List eQ}{xs:List Num3}(hl:l.length<2^63)(hm:m.length<2^63)(hx:xs.length<2^63)
 (hlp:∀t∈l,t.1.length<2^63/\t.2.ok) (hmp:∀t∈m,t.1.length<2^63/\t.2.ok) (hxo:∀x∈xs,x.ok):C J 3 [.int .i64 n,.sl (l.map cQ),.sl (m.map cQ),.sl (xs.map Num3.iv)] (.bool true):=by
 have B:=base J;have cw:=En.P9 L;have c1:=J1 J hl fun t ht=>(hlp t ht).1;have c2:=J1 J hm fun t ht=>(hmp t ht).1;have lx:(xs.map Num3.iv).length=xs.length:=by simp
 by_cases h:io l=true/\io m=true/\xs.length<=8/\xs.all Num3.tame=true
 . obtain⟨h1,h2,h3,h4⟩:=h;have c3:=Cy J (l:=xs) (by omega);rw[h1] at c1;rw[h2] at c2;rw[h4] at c3;have e4:∀l:List eQ,l.map pq=(fC l).map fun t=>tq t.1 t.2:=fun l=>by rw[fC,jF];rfl
   have e5:∀l:List eQ,l.map pr=(fC l).map aF:=fun l=>by rw[fC,jF];rfl
   have c4:=fun(l:List eQ) (h:io l=true) (ho:∀t∈l,t.1.length<2^63/\t.2.ok)=>Uz J (l:=l) (by have:=(rY h).1;omega) (fun t ht=>⟨by have:=((rY h).2.2 t ht).1;omega,(ho t ht).2⟩);simp only[e4,e5] at c4;have p1:=fun(n:Int)=>J5 (n:=n) h1;have p2:=J5 (n:=n) h2;have b1:=rY h1;have b2:=rY h2;have hy:xs.map Num3.q=xs.map Num3.q:=rfl;have c0:=U0 J (l:=xs) (by omega) hxo;have ex:(xs.map fun x=>qr x.q)=(xs.map Num3.q).map qr:=by rw[jF];rfl
   have ey:(xs.map fun x=>rr x.q)=(xs.map Num3.q).map fun x=>rr x:=by rw[jF];rfl
   rw[ex,ey] at c0;have hxb:∀x∈xs.map Num3.q,Hb 14 x:=fun x hx=>by
    obtain⟨y,hy,rfl⟩:=List.mem_map.1 hx;exact Iq (List.all_eq_true.1 h4 y hy)
   have hyl:(xs.map Num3.q).length<=8:=by simp;omega
   have hlf:∀l:List eQ,(fC l).length=l.length:=fun l=>by simp[fC]
   have hpf:∀(l:List eQ),io l=true->∀t∈fC l,t.1.length<=8:=fun l h t ht=>by
    obtain⟨y,hy,rfl⟩:=List.mem_map.1 ht;exact((rY h).2.2 y hy).1
   have q1:=hpf l h1;have q2:=hpf m h2;have d1:=c4 l h1 hlp;have d2:=c4 m h2 hmp;have n1:=hlf l;have n2:=hlf m;obtain⟨f,hf⟩:∃f,fC l=f:=⟨_,rfl⟩;obtain⟨g,hg⟩:∃g,fC m=g:=⟨_,rfl⟩;obtain⟨ys,hys⟩:∃ys,xs.map Num3.q=ys:=⟨_,rfl⟩;rw[hf] at d1 q1 n1 p1;rw[hg] at d2 q2 n2 p2;rw[hys] at c0 hxb hyl;have ly:(ys.map fun x=>rr x).length=ys.length:=by simp
   have valO:∀h:bg (ys.length:Int) f=true,_:=fun h=>Vr (f:=f) (xs:=ys) (j:=14) (n:=ys.length) (fun t ht=>⟨(p1 _ h).hb t ht,by have:=((p1 _ h).tm t ht).1;omega,((p1 _ h).tm t ht).2.2⟩) hxb (by
    have:=(p1 _ h).len;have:=ff (show f.length+1<=7 by omega) (show 14+ys.length*(14*24)+1<=14+8*(14*24)+1 by omega);omega)
   have c7:=Cw B (f:=f) (xs:=ys) (by omega) (fun t ht=>by have:=q1 t ht;omega) (by omega) valO;have c5:=Us B (n:=n) (f:=f) (by omega) (fun t ht=>by have:=q1 t ht;omega) (fun h=>(p1 _ h).nok);have c6:=Ur B (n:=n) (f:=f) (by omega) (fun t ht=>by have:=q1 t ht;omega) (fun h=>(p1 _ h).nok);have c8:C J 12 [.int .i64 n,aR f,aR g] (.tup [bif bg n f&&bg n g then aR (aN (bw f g)) else .sl [],.int .i64 (bif bg n f&&bg n g then 0 else 2)]):=by
    cases hv:bg n f&&bg n g with
    |false=>exact RU (by omega) (fun t ht=>by have:=q1 t ht;omega) (by omega) (fun t ht=>by have:=q2 t ht;omega) hv
    |true=>
     rw[aC] at hv;have P1:=p1 _ hv.1;have P2:=p2 hv.2;have:=Cv B (Uc P1 P2) (by have:=Js P1;have:=Js P2;omega) (by have:=ff P1.len P2.len;omega);rw[Reg.PX (n:=n.toNat) (fun t ht=>by have:=(P1.tm t ht).1;omega) (fun t ht=>by have:=(P2.tm t ht).1;omega)] at this;exact this
   refine OD (a:=bg (ys.length:Int) f) (b:=bg n f) (c:=bg n g) (d:=cY f) (by rw[lx];exact h3) cw c1 c2 c3 d1 d2 c0 ?_ ?_ ?_ c8 ?_
    (Cz J (by omega) (fun t ht=>by have:=q1 t ht;omega)) (Cz J (by omega) (fun t ht=>by have:=q2 t ht;omega)) ?_ (n8 J 0) ?_ ?_ (v:=En.evS f ys f.length) (VR:=rr (En.evS f ys f.length)) (CF:=aR (aN f)) (CR:=.sl ((aN f).map aF)) (TR:=.sl ((aN (bw f g)).map aF))
   . unfold yO at c5;revert c5;cases bg n f<;>exact id
   . revert c6;cases bg n f<;>exact id
   . revert c7;cases bg (ys.length:Int) f<;>exact id
   . rw[ly];exact Cz J (by omega) (fun t ht=>by have:=q1 t ht;omega)
   . intro h;have P:=p1 _ h;have hs:(f.length+1)*(14+ys.length*(14*24)+1)<2^26:=by
      have:=P.len;have:=ff (show f.length+1<=7 by omega) (show 14+ys.length*(14*24)+1<=14+8*(14*24)+1 by omega);omega
     have ht:∀t∈f,Hb 14 t.2/\t.1.length=ys.length/\∀k∈t.1,0<=k/\k<=24:=fun t ht=>⟨P.hb t ht,by have:=(P.tm t ht).1;omega,(P.tm t ht).2.2⟩;refine⟨Uq J (j:=14) ht hxb (by omega) (by omega) hs,KU L ?_⟩;have:=jP (xX ht hxb f.length);have:=ff (show f.length<=f.length+1 by omega) (ak (14+ys.length*(14*24)+1));omega
   . exact fun h=>RR J L (p1 _ h)
   . exact fun h h'=>Sk J L (p1 _ h) (p2 h')
 . refine aI Tryz.func3 rfl rfl rfl ?_;cases h1:io l with
   |false=>
    rw[h1] at c1;repeat (((first|refine W.R (by kernel_rfl) ?_|refine W.c rfl ?_|refine⟨_,c1,?_⟩|refine⟨_,cw,?_⟩|refine⟨_,rfl,?_⟩|refine xB ?_);conv=>whnf))
    rfl
   |true=>
    rw[h1] at c1;cases h2:io m with
    |false=>
     rw[h2] at c2;repeat (((first|refine W.R (by kernel_rfl) ?_|refine W.c rfl ?_|refine⟨_,c1,?_⟩|refine⟨_,c2,?_⟩|refine⟨_,cw,?_⟩|refine⟨_,rfl,?_⟩|refine xA ?_|refine xB ?_);conv=>whnf))
     rfl
    |true=>
     rw[h2] at c2;by_cases h3:8<xs.length
     . repeat (((first|refine W.R (by kernel_rfl) ?_|refine W.c rfl ?_|refine⟨_,c1,?_⟩|refine⟨_,c2,?_⟩|refine⟨_,cw,?_⟩|refine xT (by omega) ?_|refine⟨_,rfl,?_⟩|refine xr ?_|refine xA ?_|refine xB ?_);conv=>whnf))
       rfl
     have c3:=Cy J (l:=xs) (by omega);cases h4:xs.all Num3.tame with
     |true=>exact absurd ⟨h1,h2,by omega,h4⟩ h
     |false=>
      rw[h4] at c3;repeat (((first|refine W.R (by kernel_rfl) ?_|refine W.c rfl ?_|refine⟨_,c1,?_⟩|refine⟨_,c2,?_⟩|refine⟨_,c3,?_⟩|refine⟨_,cw,?_⟩|refine xF (by omega) ?_|refine⟨_,rfl,?_⟩|refine xr ?_|refine xA ?_);conv=>whnf))
      rfl
end Go.Proofs.Fl
namespace Go.Proofs.Fl
open Go.RowKit Go.ChangeShapes Go.WideShapes
attribute [local irreducible] IntKind.wrap aY be bm bt
theorem Qc{P:Program}{n:String}{g:Nat}{k:IntKind}{zs:List Int}{w w':World}(hg:P.globalNamed n=some g)(h:Lib.TabIs P w n k zs)(hb:Below w.heap.size w w'):Lib.TabIs P w' n k zs:=by
 unfold Lib.TabIs World.var? at h ⊢;rw[hg] at h ⊢;simp only[Me] at h ⊢;have hlt:g<w.heap.size:=by
  rcases eS g w.heap.size with h'|h'
  . exact h'
  . rw[tg h'] at h;cases h
 rw[hb.block g hlt];exact h
theorem Lr:Tryz.prog.globalNamed "internal/strconv.uint64pow10" = some ((Tryz.prog.globalNamed "internal/strconv.uint64pow10").getD 0):=by kernel_rfl
theorem ON{n m:Nat}{w w':World}(h:Below n w w')(hm:m<=n):Below m w w':=⟨h.os,h.tape,h.output,h.size,fun k hk=>h.block k (by omega)⟩
def Dy:Keep where
 I w:=Lib.TabIs Tryz.prog w "internal/strconv.uint64pow10" .u64 Lib.pow10Tab
 bel n w w' h hn hb:=Qc Lr h (ON hb hn)
 ro:=fun r=>r=none
 r0:=rfl
theorem V0:LibI Dy:=⟨fun _ h=>h⟩
theorem OO{W W':World}(h:Below W.heap.size W W')(may:MemPlace->Prop):W.keptBut W' may:=by
 refine⟨h.os,h.output,fun i hi=>?_⟩;rw[h.block i hi];cases W.heap[i]? with
 |none=>rfl
 |some o=>cases o<;>first|rfl|exact⟨rfl,rfl,rfl,fun _ _=>rfl⟩|exact .inr ⟨rfl,rfl⟩
theorem E2{H:Type}{enc:TypeId×Value->H}{P:Program}(hl:laidOutB P=true){W W':World}(hb:Below W.heap.size W W'):∀{ts:List TypeId} {vs:List Value} {ds:List (DataW H)} {ps:List MemPlace},
 ts.all (fun t=>P.readableRec t&&decide (t<P.types.size))=true->DataW.TrodAll enc P W 0 (fun _=>true) true ts vs ds ps->(∀x∈ps,x.block<W.heap.size)->DataW.TrodAll enc P W' 0 (fun b=>decide (b<W.heap.size)) true ts vs ds ps
 | [],_,_,_,_,h,_=>by
  obtain⟨rfl,rfl,rfl⟩:=trodAll_nil h;exact h
 |t::ts,_,_,_,hr,h,hlt=>by
  obtain⟨v,vs1,d,ds1,a,b,rfl,rfl,rfl,h1,h2⟩:=trodAll_cons h;simp only[ed,aC,d9] at hr;exact⟨a,b,Below.trod hl hr.1.1 hr.1.2 h1 hb (fun x hx=>hlt x (by simp[hx])),E2 hl hb (by simpa using hr.2) h2 (fun x hx=>hlt x (by simp[hx])),rfl⟩
theorem SZ:laidOutB Tryz.prog=true:=by kernel_rfl
theorem VW:ownKnob Tryz.prog.godebug=none:=by kernel_rfl
theorem OA{f:FuncId}{fn:Func}{s:ChangeSpec}{laid:List (String×DataW Unit)}{os:Os}(started:os.Started){H:Type}{enc:TypeId×Value->H}
 (hfn:Tryz.prog.funcs[f]?=some fn) (noInit:Tryz.prog.inits.idxOf? f=none) (hv:s.vars=[]) (hr:fn.resultTypes = #[4])
 (hs:∀ds:List (DataW H),ds.length=fn.params.toList.length->s.fn H ds = { results:=[.lit (.bool true)],args:=ds })
 (hread:fn.params.toList.all (fun t=>Tryz.prog.readableRec t&&decide (t<Tryz.prog.types.size))=true)
 (hlaid:∀W,laidMetH Tryz.prog laid W->Lib.TabIs Tryz.prog W "internal/strconv.uint64pow10" .u64 Lib.pow10Tab)
 (witness:∃(w:World) (tape:Tape) (i:Input),w.os=os/\(w.forCall tape i).Shaped Tryz.prog/\i.vars=[]/\Input.okWide Tryz.prog (w.forCall tape i) .any w.heap.size f i/\
   ((s.pre enc Tryz.prog fn [] false (w.forCall tape i).memory i.args/\laidMetH Tryz.prog laid (w.forCall tape i).memory)/\sizedMet enc Tryz.prog fn (OpenSpec.ofChange s) false (w.forCall tape i).memory i.args)/\({}:Assume).holds Tryz.prog (lone (Frame.enter Tryz.prog f i.args .normal) [] (w.forCall tape i)))
 (hlaw:∀(W:World) (base:Nat) (args:Array Value) (ds:List (DataW H)) (p:List MemPlace),(∀(j:Nat) t v,fn.params[j]?=some t->args[j]?=some v->Value.okWide Tryz.prog W .any base t v)->
   DataW.TrodAll enc Tryz.prog W 0 (fun _=>true) true fn.params.toList args.toList ds p->∃(Hp:ah) (xs:List IV),HeapHas W Hp/\VRL Hp args.toList xs/\C Dy f xs (.bool true)) :
 ReturnsInHanded {} Tryz.checked os f .any (fun w args=>(s.pre enc Tryz.prog fn [] false w args/\laidMetH Tryz.prog laid w)/\sizedMet enc Tryz.prog fn (OpenSpec.ofChange s) false w args) (s.post enc Tryz.prog fn false true false false):=by
 refine returnsInHanded_of_calls (C:=Tryz.checked) VW started noInit witness ?_;intro w tape i _ hsh _ hok hpre _;obtain⟨_,_,_,fn',hfn',_,_,_,_,hval⟩:=hok;obtain rfl:fn'=fn:=zK (hfn'.symm.trans hfn);obtain⟨⟨⟨ds,gs,before,hw,hc⟩,hx⟩,hz⟩:=hpre;have hw':=DataW.Whole.of_heap (w':=w.forCall tape i) (by rfl) hw;have hx':laidMetH Tryz.prog laid (w.forCall tape i):=hx.of_heap (by rfl);obtain⟨W,hW⟩:∃W,w.forCall tape i=W:=⟨_,rfl⟩;rw[hW] at hsh hval hw' hx' ⊢;have hlt:=hw'.lt;have hw2:=hw';obtain⟨p,q,hA,hV,rfl,_,_⟩:=hw2;obtain⟨Hp,xs,hH,hargs,hC⟩:=hlaw W w.heap.size i.args ds p hval hA;rw[hv] at hV;obtain⟨rfl,rfl⟩:gs=[]/\q=[]:=by
  cases gs with
  |nil=>exact⟨rfl,hV⟩
  |cons g r=>exact absurd hV (by intro h;cases h)
 have hI:Dy.I W:=hlaid W hx';unfold C aY at hC;have hcall:=hC.2 Hp W i.args.toList hI hH hargs;have ha:i.args.toList.toArray=i.args:=rfl;rw[ha] at hcall;refine hcall.mono ?_;rintro e W' ⟨v,H',rfl,_,_,hvr,hb⟩;cases hvr;have hlen:ds.length=fn'.params.toList.length:=by
  have:∀{ts:List TypeId} {vs:List Value} {ds:List (DataW H)} {ps:List MemPlace},DataW.TrodAll enc Tryz.prog W 0 (fun _=>true) true ts vs ds ps->ds.length=ts.length:=by
   intro ts;induction ts with
   |nil=>intro vs ds ps h;obtain⟨rfl,rfl,rfl⟩:=trodAll_nil h;rfl
   |cons t ts ih=>
    intro vs ds ps h;obtain⟨v,vs1,d,ds1,a,b,rfl,rfl,rfl,h1,h2⟩:=trodAll_cons h;simp[ih h2]
  exact this hA
 have e1:s.fn H (ds ++ []) = { results:=[.lit (.bool true)],args:=ds }:=by rw[jb];exact hs ds hlen
 refine ChangeSpec.post_blind ?_;refine⟨ds,[],p ++ [],[],p,[],hw',?_,?_,?_,OO hb _,fun h=>by cases h⟩
 . rw[e1,hr];exact trodAll_mk1 (shut_bool Tryz.underlying4 true)
 . rw[e1];exact E2 SZ hb hread hA (fun x hx=>hlt x (by simp[hx]))
 . rw[e1,hv];rfl
end Go.Proofs.Fl
namespace Go.Proofs.Fl
open Go.RowKit Go.ChangeShapes Go.WideShapes Go.Deep
attribute [local irreducible] IntKind.wrap aY be bm bt
set_option maxRecDepth 100000
theorem Vq{n:Int}(h:(Lit.int .u8 n).wf=true):∃p:Nat,n=(p:Int)/\p<256:=by
 simp only[Lit.wf,aC,d9] at h;have e1:IntKind.u8.min=0:=rfl;have e2:IntKind.u8.max=255:=rfl;rw[e1,e2] at h;exact⟨n.toNat,by omega,by omega⟩
section
variable {H:Type}{enc:TypeId × Value->H}{w:World}{base:Nat}{spare:Nat->Bool}{held:Bool}
end
noncomputable def Lc(os:Os):World:=World.doorLaid Tryz.prog 65 os
theorem QN:laidOutB YtaniegbleeenfaaGreatDoor.Tryz.pinned.checked.prog=true:=by kernel_rfl
theorem Uh:mapsRowed YtaniegbleeenfaaGreatDoor.Tryz.pinned.checked.prog=true:=by kernel_rfl
set_option maxRecDepth 100000
theorem Co{n:Int}(h:(Lit.int .i64 n).wf=true) : -9223372036854775808<=n/\n<=9223372036854775807:=by
 simp only[Lit.wf,aC,d9] at h;have e1:IntKind.i64.min = -9223372036854775808:=rfl;have e2:IntKind.i64.max=9223372036854775807:=rfl;rw[e1,e2] at h;exact h
section
variable {H:Type}{enc:TypeId × Value->H}{w:World}{base:Nat}{spare:Nat->Bool}{held:Bool}
theorem S4{r:Reach}{b0:Nat}{t:TypeId}(ht:Tryz.prog.underlying t=some (.int .i64)){v:Value}{d:DataW H}{p:List MemPlace}(hv:Value.okWide Tryz.prog w r b0 t v)(h:DataW.Trod enc Tryz.prog w base spare held t v d p) :
 ∃n:Int,v=.int .i64 n/\ -9223372036854775808<=n/\n<=9223372036854775807:=by
 obtain⟨n,rfl,_,_,hw⟩:=open_int ht hv h;exact⟨n,rfl,Co hw⟩
end
section
variable {H:Type}{enc:TypeId × Value->H}{P:Program}{w:World}{base:Nat}{spare:Nat->Bool}{held:Bool}
theorem OQ{t0 t1 t2 t3:TypeId}{args:Array Value}{ds:List (DataW H)}{ps:List MemPlace}(h:DataW.TrodAll enc P w base spare held [t0,t1,t2,t3] args.toList ds ps) :
 ∃v0 v1 v2 v3 d0 d1 d2 d3,(∃p,DataW.Trod enc P w base spare held t0 v0 d0 p)/\(∃p,DataW.Trod enc P w base spare held t1 v1 d1 p)/\(∃p,DataW.Trod enc P w base spare held t2 v2 d2 p)/\(∃p,DataW.Trod enc P w base spare held t3 v3 d3 p)/\args = #[v0,v1,v2,v3]:=by
 obtain⟨v0,vs,d0,ds',p0,q,hargs,rfl,rfl,h0,h⟩:=trodAll_cons h;obtain⟨v1,vs,d1,ds',p1,q,rfl,rfl,rfl,h1,h⟩:=trodAll_cons h;obtain⟨v2,vs,d2,ds',p2,q,rfl,rfl,rfl,h2,h⟩:=trodAll_cons h;obtain⟨v3,vs,d3,ds',p3,q,rfl,rfl,rfl,h3,h⟩:=trodAll_cons h;obtain⟨rfl,rfl,rfl⟩:=trodAll_nil h;exact⟨v0,v1,v2,v3,d0,d1,d2,d3,⟨_,h0⟩,⟨_,h1⟩,⟨_,h2⟩,⟨_,h3⟩,Array.toList_inj.1 hargs⟩
end
set_option maxRecDepth 100000
def jQ(w:World):ah:=fun b=>match w.heap[b]? with
 |some (.cells c _ _)=>some c
 |_=>none
theorem PG(w:World):HeapHas w (jQ w):=fun b arr h=>by
 unfold jQ at h;split at h
 . rename_i c et fr e;injection h with h;subst h;exact⟨et,fr,e⟩
 . cases h
def pk(P:Program)(t:TypeId)(zs:List IV):IV:=match P.underlying t with
 |some (.struct _)=>.agg zs
 |_=>zs.head?.getD (.bool false)
def mkV(P:Program)(t:TypeId)(cs:List Value):Value:=match P.underlying t with
 |some (.struct _)=>.agg cs.toArray
 |_=>cs.head?.getD .nilFunc
def zb(F:TypeId->List IV->Prop):List Field->List IV->Prop
 | [],ys=>ys=[]
 |f::fs,ys=>∃a b,F f.type a/\zb F fs b/\ys=a++b
def Sh(P:Program):Nat->TypeId->List IV->Prop
 |0,_,_=>False
 |n+1,t,ys=>match P.underlying t with
  |some (.int k)=>∃z,ys=[.int k z]/\(Lit.int k z).wf=true
  |some (.slice e)=>∃es,ys=[.sl es]/\es.length<2^63/\∀y∈es,∃zs,Sh P n e zs/\y=pk P e zs
  |some (.struct fs)=>zb (fun t=>Sh P n t) fs.toList ys
  |_=>False
def uT(P:Program)(T:Nat):List Field->Nat->Bool
 | [],o=>o==T
 |f::fs,o=>f.offset==o&&uT P T fs (o+P.cellsOf f.type)
def kQ(P:Program):Nat->TypeId->Bool
 |0,_=>false
 |n+1,t=>match P.underlying t with
  |some (.int _)=>P.cellsOf t==1
  |some (.slice e)=>P.cellsOf t==1&&(Nat.blt 0 (P.cellsOf e)&&kQ P n e)
  |some (.struct fs)=>uT P (P.cellsOf t) fs.toList 0&&fs.toList.all fun f=>kQ P n f.type
  |_=>false
section
variable {H:Type}{enc:TypeId × Value->H}{P:Program}{w:World}{spare:Nat->Bool}{held:Bool}
theorem JI{a:Addr}{k n:Nat}{cs:List Value}(hn:0<n)(h:w.cells? 0 (a.add k) n=some cs) :
 (k=0->a=⟨a.block,a.off,none⟩)/\∃c,jQ w a.block=some c/\(c.toList.drop (a.off+k)).take n=cs:=by
 obtain⟨_,hl,hc⟩:=World.cells?_some h;have hc0:=hc 0 hn;rw[add_add] at hc0;obtain⟨x,hx⟩:∃x,cs[0]?=some x:=⟨_,aQ (by omega)⟩;rw[hx] at hc0;have hb:∀j,(a.add j).block=a.block/\(a.add j).off=a.off+j/\(j≠0->(a.add j).spot=none)/\(j=0->(a.add j).spot=a.spot):=fun j=>by
  unfold Addr.add;split
  . rename_i hj;subst hj;exact⟨rfl,rfl,fun h=>absurd rfl h,fun _=>rfl⟩
  . rename_i hj;exact⟨rfl,rfl,fun _=>rfl,fun h=>absurd h hj⟩
 obtain⟨c,et,fr,hbk,hsp⟩:∃c et fr,w.heap[a.block]?=some (.cells c et fr)/\(a.add (k+0)).spot=none:=by
  unfold World.cell? at hc0;rw[(hb _).1] at hc0;cases hh:w.heap[a.block]? with
  |none=>rw[hh] at hc0;simp at hc0
  |some o=>
   rw[hh] at hc0;cases o with
   |cells c et fr=>
    refine⟨c,et,fr,rfl,?_⟩;cases hs:(a.add (k+0)).spot with
    |none=>rfl
    |some s=>rw[hs] at hc0;simp at hc0
   |_=>simp at hc0
 have hadd:∀i,a.add (k+i)=⟨a.block,a.off+(k+i),none⟩:=by
  intro i;obtain⟨h1,h2,h3,h4⟩:=hb (k+i);have h5:(a.add (k+i)).spot=none:=by
   by_cases hz:k+i=0
   . have:k+i=k+0:=by omega
     rw[this];exact hsp
   . exact h3 hz
  cases hq:a.add (k+i);rw[hq] at h1 h2 h5
  simp_all
 refine⟨fun hk=>?_,c,by unfold jQ;rw[hbk],?_⟩
 . have:=hadd 0;subst hk;have h4:=(hb (0+0)).2.2.2 rfl;rw[hsp] at h4;cases a
   simp_all
 apply oQ;intro i;rw[cL];by_cases hi:i<n
 . rw[ar hi,<-hc i hi,add_add,hadd,oR];unfold World.cell?;simp only[hbk,tb];rw[kX];rfl
 . rw[al hi,qQ (by omega)]
theorem mkV_ok{Hp:ah}{e:TypeId}{cs:List Value}{ys:List IV}(hs:VRL Hp cs ys)(h1:∀v∈cs,v.oneCell'=true)(hl:(∃fs,P.underlying e=some (.struct fs))\/cs.length=1) :
 VR Hp (mkV P e cs) (pk P e ys)/\(mkV P e cs).cells.toList=cs:=by
 unfold mkV pk;split
 . exact⟨.agg _ _ hs h1,by simp[Value.cells]⟩
 . rename_i hne;rcases hl with⟨fs,h⟩|hl
   . exact absurd h (hne fs)
   . cases hs with
     |nil=>cases hl
     |cons v x vs xs h t=>
      cases vs with
      |cons _ _=>simp at hl
      |nil=>
       cases t;refine⟨h,?_⟩;have:=(h.of_one (h1 v (by simp))).1;show v.cells.toList=[v];rw[this]
theorem It{n:Nat}{e:TypeId}(h:kQ P n e=true):(∃fs,P.underlying e=some (.struct fs))\/P.cellsOf e=1:=by
 cases n with
 |zero=>cases h
 |succ n=>
  unfold kQ at h;split at h
  . exact .inr (by simpa using h)
  . exact .inr (by simp only[aC,vK] at h;exact h.1)
  . rename_i fs hf;exact .inl ⟨fs,hf⟩
  . cases h
theorem HX{Q:TypeId->List IV->Prop}{Hp:ah}{cs:List Value} :
 ∀(l:List Field) (o:Nat),uT P cs.length l o=true->
  (∀f∈l,((cs.drop f.offset).take (P.cellsOf f.type)).length=P.cellsOf f.type/\(∀v∈(cs.drop f.offset).take (P.cellsOf f.type),v.oneCell'=true)/\∃ys,VRL Hp ((cs.drop f.offset).take (P.cellsOf f.type)) ys/\Q f.type ys)->
  (∀v∈cs.drop o,v.oneCell'=true)/\∃ys,VRL Hp (cs.drop o) ys/\zb Q l ys
 | [],o,ho,_=>by
  have ho:o=cs.length:=by simpa[uT] using ho
  rw[ho,MD];exact⟨fun v hv=>(bv hv).elim,[],.nil,rfl⟩
 |f::l,o,ho,hf=>by
  simp only[uT,aC,vK] at ho;obtain⟨h1,h2⟩:=ho;obtain⟨a1,a2,ys,a3,a4⟩:=hf f (by simp);rw[h1] at a1 a2 a3;obtain⟨b1,zs,b2,b3⟩:=HX l _ h2 fun g hg=>hf g (dx _ hg);have e:cs.drop o=(cs.drop o).take (P.cellsOf f.type)++cs.drop (o+P.cellsOf f.type):=by
   rw[<-nC,ks]
  rw[e];refine⟨fun v hv=>?_,ys++zs,a3.append b2,ys,zs,a4,b3,rfl⟩;rcases List.mem_append.1 hv with h|h
  . exact a2 v h
  . exact b1 v h
theorem O9{c:List Value}{off sz:Nat}{Vz9:Nat->Value}{len:Nat}(h:∀i,i<len->(c.drop (off+i*sz)).take sz=(Vz9 i).cells.toList) :
 ∀k,k<=len->(c.drop off).take (k*sz)=aO ((List.range k).map Vz9):=by
 intro k;induction k with
 |zero=>intro _;simp[aO]
 |succ k ih=>
  intro hk;rw[qX,List.take_add,ih (by omega),List.range_succ,ch,nC,h k (by omega)];unfold aO;rw[mG];congr 1;simp
theorem C5:∀{n:Nat} {t:TypeId} {m:Nat} {cs:List Value} {x:DataW H×List MemPlace},kQ P n t=true->DataW.trod enc P w 0 spare held m t cs=some x->
 cs.length=P.cellsOf t/\(∀v∈cs,v.oneCell'=true)/\∃ys,VRL (jQ w) cs ys/\Sh P n t ys
 |0,_,_,_,_,hs,_=>by cases hs
 |n+1,t,m,cs,x,hs,h=>by
  unfold kQ at hs;unfold Sh;split at hs
  . rename_i k ht;have hc:P.cellsOf t=1:=by simpa using hs
    obtain⟨z,hcs,_,hw⟩:=DataW.trod_int ht h;subst hcs;refine⟨hc.symm,fun v hv=>by rw[List.mem_singleton.1 hv];rfl,[.int k z],.cons _ _ _ _ (.int _ _) .nil,?_⟩;exact⟨z,rfl,hw⟩
  . rename_i e ht;simp only[aC,vK] at hs;obtain⟨hc,hz,he⟩:=hs;have hz:0<P.cellsOf e:=aB hz;have nilc:∀a c,cs=[.slice a 0 c]->cs.length=P.cellsOf t/\(∀v∈cs,v.oneCell'=true)/\∃ys,VRL (jQ w) cs ys/\∃es,ys=[.sl es]/\es.length<2^63/\∀y∈es,∃zs,Sh P n e zs/\y=pk P e zs:=by
     intro a c hcs;subst hcs;exact⟨hc.symm,fun v hv=>by rw[List.mem_singleton.1 hv];rfl,[.sl []],.cons _ _ _ _ (.sl0 _ _) .nil,[],rfl,by decide,fun y hy=>(bv hy).elim⟩
    rcases open_slice ht h with⟨h0,_⟩|⟨a,len,cap,m',n',D,Pl,hcs,hb,hl,hm,hmm,_,hx⟩
    . exact nilc _ _ h0
    . by_cases hlen:len=0
      . subst hlen;exact nilc _ _ hcs
      have hlm:len<=m':=by rw[hmm];split<;>omega
      obtain⟨N,hN⟩:=choose_lt (α:=List Value×List IV) (n:=len) (p:=fun i q=>w.cells? 0 (a.add (i*P.cellsOf e)) (P.cellsOf e)=some q.1/\q.1.length=P.cellsOf e/\(∀v∈q.1,v.oneCell'=true)/\VRL (jQ w) q.1 q.2/\Sh P n e q.2) (fun i hi=>by
       obtain⟨cs',h1,h2⟩:=hx i (by omega);obtain⟨k1,k2,ys,k3,k4⟩:=C5 he h2;exact⟨(cs',ys),h1,k1,k2,k3,k4⟩)
      have hmk:∀i,i<len->VR (jQ w) (mkV P e (N i).1) (pk P e (N i).2)/\(mkV P e (N i).1).cells.toList=(N i).1:=fun i hi=>by
       obtain⟨_,k1,k2,k3,_⟩:=hN i hi;refine mkV_ok k3 k2 ?_;rcases It he with h|h
       . exact .inl h
       . exact .inr (by omega)
      obtain⟨ea,c,hbk,_⟩:=JI hz (hN 0 (by omega)).1;have ea:=ea (mA _);have hat:∀i,i<len->(c.toList.drop (a.off+i*P.cellsOf e)).take (P.cellsOf e)=(mkV P e (N i).1).cells.toList:=fun i hi=>by
       obtain⟨_,c',hbk',h'⟩:=JI hz (hN i hi).1;rw[hbk] at hbk';cases hbk';rw[(hmk i hi).2];exact h'
      have hvl:∀k,k<=len->VRL (jQ w) ((List.range k).map fun i=>mkV P e (N i).1) ((List.range k).map fun i=>pk P e (N i).2):=by
       intro k;induction k with
       |zero=>intro _;exact .nil
       |succ k ih=>
        intro hk;rw[List.range_succ,ch,ch];exact(ih (by omega)).append (.cons _ _ _ _ (hmk k (by omega)).1 .nil)
      have hml:maxLen<2^63:=by decide
      subst hcs;refine⟨hc.symm,fun v hv=>by rw[List.mem_singleton.1 hv];rfl,[.sl ((List.range len).map fun i=>pk P e (N i).2)],.cons _ _ _ _ ?_ .nil,_,rfl,by simp;omega,fun y hy=>?_⟩
      . rw[ea];refine VR.sl a.block a.off len cap (P.cellsOf e) c ((List.range len).map fun i=>mkV P e (N i).1) _ hbk (hvl len (ak _)) (by simp) hl ?_ ?_
        . intro v hv;obtain⟨i,hi,rfl⟩:=List.mem_map.1 hv;have hi:i<len:=by simpa using hi
          have h1:=congrArg List.length (hmk i hi).2;rw[(hN i hi).2.1] at h1;simpa using h1
        . rw[cT,List.length_range];exact O9 hat len (ak _)
      . obtain⟨i,hi,rfl⟩:=List.mem_map.1 hy;exact⟨_,(hN i (by simpa using hi)).2.2.2.2,rfl⟩
  . rename_i fs ht;simp only[aC,kq] at hs;obtain⟨ho,hall⟩:=hs;obtain⟨xs,n',_,_,hl,hxl,hf⟩:=DataW.trod_struct ht h;rw[<-hl] at ho;have:=HX (P:=P) (Q:=fun t=>Sh P n t) (Hp:=jQ w) fs.toList 0 ho fun f hfm=>by
     obtain⟨i,hi⟩:=List.mem_iff_getElem?.1 hfm;have hi':fs[i]?=some f:=by simpa using hi
     have hlt:i<fs.size:=by
      rcases eS i fs.size with h|h
      . exact h
      . rw[tg h] at hi';cases hi'
     have h1:=hf i f hi';obtain⟨y,hy⟩:∃y,xs[i]?=some y:=⟨_,aQ (by omega)⟩;rw[hy] at h1;exact C5 (hall f hfm) h1
    exact⟨hl,this⟩
  . cases hs
theorem CX{n:Nat}{t:TypeId}{v:Value}{d:DataW H}{r:Reach}{b0:Nat}(hs:kQ P n t=true)(hv:Value.okWide P w r b0 t v)(h:∃p,DataW.Trod enc P w 0 spare held t v d p):∃ys,VR (jQ w) v (pk P t ys)/\Sh P n t ys:=by
 obtain⟨p,fuel,hf⟩:=h;obtain⟨h1,h2,ys,h3,h4⟩:=C5 hs hf;refine⟨ys,?_,h4⟩;have:=(mkV_ok (P:=P) (e:=t) h3 h2 (by
  rcases It hs with h|h
  . exact .inl h
  . exact .inr (by omega))).1
 have e:mkV P t v.cells.toList=v:=by
  cases n with
  |zero=>cases hs
  |succ n=>
   unfold kQ at hs;unfold mkV;split at hs
   . rename_i k ht;obtain⟨z,rfl⟩:=okWide_int ht hv;rw[ht];rfl
   . rename_i e ht;obtain⟨a,l,c,rfl⟩:=okWide_slice ht hv;rw[ht];rfl
   . rename_i fs ht;obtain⟨cs,rfl,_⟩:=okWide_struct ht hv;rw[ht];simp[Value.cells]
   . cases hs
 rw[e] at this;exact this
theorem Sh.int{n:Nat}{t:TypeId}{k:IntKind}{ys:List IV}(ht:P.underlying t=some (.int k))(h:Sh P (n+1) t ys):∃z,ys=[.int k z]/\(Lit.int k z).wf=true:=by
 unfold Sh at h;rw[ht] at h;exact h
theorem Sh.sl{n:Nat}{t e:TypeId}{ys:List IV}(ht:P.underlying t=some (.slice e))(h:Sh P (n+1) t ys):∃es,ys=[.sl es]/\es.length<2^63/\∀y∈es,∃zs,Sh P n e zs/\y=pk P e zs:=by
 unfold Sh at h;rw[ht] at h;exact h
theorem Sh.st{n:Nat}{t:TypeId}{fs:Array Field}{ys:List IV}(ht:P.underlying t=some (.struct fs))(h:Sh P (n+1) t ys):zb (fun t=>Sh P n t) fs.toList ys:=by
 unfold Sh at h;rw[ht] at h;exact h
end
theorem wM{α U:Type}{f:α->U}{Q:α->Prop}:∀{l:List U},(∀y∈l,∃x,y=f x/\Q x)->∃k:List α,l=k.map f/\∀x∈k,Q x
 | [],_=>⟨[],rfl,fun _ h=>(bv h).elim⟩
 |y::l,h=>by
  obtain⟨x,rfl,hx⟩:=h y (by simp);obtain⟨k,rfl,hk⟩:=wM fun z hz=>h z (dx _ hz);exact⟨x::k,rfl,fun z hz=>by rcases List.mem_cons.1 hz with rfl|hz;exact hx;exact hk z hz⟩
theorem JW{n:Nat}{ys:List IV}(h:Sh Tryz.prog (n+2) 67 ys):∃x:Num3,ys=[.int .i64 x.n,.int .i64 x.d,.int .u8 (x.p:Int)]/\x.ok:=by
 obtain⟨_,_,h1,⟨_,_,h2,⟨_,_,h3,rfl,rfl⟩,rfl⟩,rfl⟩:=Sh.st Tryz.underlying67 h;obtain⟨a,rfl,ha⟩:=Sh.int Tryz.underlying2 h1;obtain⟨b,rfl,hb⟩:=Sh.int Tryz.underlying2 h2;obtain⟨c,rfl,hc⟩:=Sh.int Tryz.underlying5 h3;obtain⟨p,rfl,hp⟩:=Vq hc;exact⟨⟨a,b,p⟩,rfl,Co ha,Co hb,hp⟩
theorem RD{n:Nat}{ys:List IV}(h:Sh Tryz.prog (n+3) 23 ys):∃l:List Num3,ys=[.sl (l.map Num3.iv)]/\l.length<2^63/\∀x∈l,x.ok:=by
 obtain⟨es,rfl,hl,he⟩:=Sh.sl Tryz.underlying23 h;obtain⟨k,rfl,hk⟩:=wM (f:=Num3.iv) (Q:=Num3.ok) fun y hy=>by
  obtain⟨zs,h1,rfl⟩:=he y hy;obtain⟨x,rfl,hx⟩:=JW h1;exact⟨x,by unfold pk;rw[Tryz.underlying67];rfl,hx⟩
 exact⟨k,rfl,by simpa using hl,hk⟩
theorem GW{n:Nat}{ys:List IV}(h:Sh Tryz.prog (n+5) 22 ys):∃l:List eQ,ys=[.sl (l.map cQ)]/\l.length<2^63/\∀t∈l,t.1.length<2^63/\t.2.ok:=by
 obtain⟨es,rfl,hl,he⟩:=Sh.sl Tryz.underlying22 h;obtain⟨k,rfl,hk⟩:=wM (f:=cQ) (Q:=fun t:eQ=>t.1.length<2^63/\t.2.ok) fun y hy=>by
  obtain⟨zs,h1,rfl⟩:=he y hy;obtain⟨_,_,h2,⟨_,_,h3,rfl,rfl⟩,rfl⟩:=Sh.st Tryz.underlying69 h1;obtain⟨is,rfl,hil,hi⟩:=Sh.sl Tryz.underlying54 h2;obtain⟨x,rfl,hx⟩:=JW h3;obtain⟨p,rfl,_⟩:=wM (f:=di) (Q:=fun _=>True) fun y hy=>by
   obtain⟨zs,h4,rfl⟩:=hi y hy;obtain⟨a,rfl,_⟩:=Sh.int Tryz.underlying3 h4;exact⟨a,by unfold pk;rw[Tryz.underlying3];rfl,ab⟩
  exact⟨(p,x),by unfold pk;rw[Tryz.underlying69];rfl,by simpa using hil,hx⟩
 exact⟨k,rfl,by simpa using hl,hk⟩
end Go.Proofs.Fl
