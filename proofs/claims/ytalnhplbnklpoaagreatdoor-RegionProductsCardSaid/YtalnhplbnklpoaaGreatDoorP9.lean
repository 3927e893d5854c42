/-
  A part of the proof of regionProducts_card.
-/
import Derived.Test.YtalnhplbnklpoaaGreatDoorP8
import Derived.Test.YtalnhplbnklpoaaGreatDoorTie
import Derived.Test.YtalnhplbnklpoaaGreatDoorCards
import Derived.ChangeSame
import Derived.ChangeVars
import Derived.JoinedOf
import Derived.RowKit
import Derived.RowKitTokens
import Derived.LaidLaws
import Derived.LaidMore
import Derived.LaidSub
import Derived.Stop.Joined
import Derived.Lib.LaidTab
import Derived.Lib.LaidU8
import Derived.Lib.SmallJoins
import Derived.Carry
import Derived.SevenTiedAt
import Derived.Deep.Slices
import Derived.SizedLaws
set_option maxHeartbeats 8000000
set_option maxRecDepth 100000
namespace Go.Proofs
open Go
abbrev AV:=@Go.DataW.weights_mem_each
abbrev NK:=@List.length_range
end Go.Proofs
namespace Go.Proofs.En
open Go.RowKit Go.Proofs.Fl Go.Proofs.Dig
attribute [local irreducible] IntKind.wrap a7 be bq bw SW SWr CallOk To
noncomputable def L0:X5:=match Tryz.f6.body with|some c=>rh (dC (c))|none=>.skip
theorem W6:runT ri 100000 0 132 L0 [] [] 0 [(0,24),(1,22),(2,21),(3,6),(4,13),(5,20)] [(1,.w (.one (.ptr 0 0 0)))] [(0,.mem 42 [.iv (.int .i64 2),.iv (.nil 3),.slc 1 0 0 1 (.ex 1)] false [(0,3)] 1),(1,.mem 27 [.slc 2 0 0 3 (.ex 3)] false [(0,1)] 1),(2,.mem 28 [.slc 3 0 0 2 (.ex 2),.slc 4 0 0 2 (.ex 2),.slc 5 0 0 2 (.ex 2)] false [(0,3)] 1),(3,.mem 54 [.qc 0 1 0,.qc 0 1 1,.qc 0 1 2,.qc 0 1 0,.qc 0 1 1,.qc 0 1 2] false [(0,6)] 1),(4,.mem 54 [.qc 1 1 0,.qc 1 1 1,.qc 1 1 2,.qc 0 1 0,.qc 0 1 1,.qc 0 1 2] false [(0,6)] 1),(5,.mem 54 [.qc 0 1 0,.qc 0 1 1,.qc 0 1 2,.qc 1 1 0,.qc 1 1 1,.qc 1 1 2] false [(0,6)] 1)] 6=true:=by kernel_rfl
noncomputable def LZ:X5:=match Tryz.f6.body with|some c=>rh (dC (dC (c)))|none=>.skip
theorem W5:runT ri 100000 0 132 LZ [(1,.w (.one (.ptr 0 0 0)))] [(0,.mem 42 [.iv (.int .i64 2),.iv (.nil 3),.slc 1 0 0 1 (.ex 1)] false [(0,3)] 1),(1,.mem 27 [.slc 2 0 0 3 (.ex 3)] false [(0,1)] 1),(2,.mem 28 [.slc 3 0 0 2 (.ex 2),.slc 4 0 0 2 (.ex 2),.slc 5 0 0 2 (.ex 2)] false [(0,3)] 1),(3,.mem 54 [.qc 0 1 0,.qc 0 1 1,.qc 0 1 2,.qc 0 1 0,.qc 0 1 1,.qc 0 1 2] false [(0,6)] 1),(4,.mem 54 [.qc 1 1 0,.qc 1 1 1,.qc 1 1 2,.qc 0 1 0,.qc 0 1 1,.qc 0 1 2] false [(0,6)] 1),(5,.mem 54 [.qc 0 1 0,.qc 0 1 1,.qc 0 1 2,.qc 1 1 0,.qc 1 1 1,.qc 1 1 2] false [(0,6)] 1)] 6 [(0,15)] [(2,.w (.one (.ptr 0 0 0))),(3,.w (.one (.iv (.int .i64 0))))] [(0,.mem 54 [.qc 1 12 0,.qc 1 12 1,.qc 1 12 2] false [(0,3)] 1)] 1=true:=by kernel_rfl
noncomputable def LY:X5:=match Tryz.f6.body with|some c=>rh (dC (dC (dC (c))))|none=>.skip
theorem W4:runT ri 100000 0 132 LY [(2,.w (.one (.ptr 0 0 0))),(3,.w (.one (.iv (.int .i64 0))))] [(0,.mem 54 [.qc 1 12 0,.qc 1 12 1,.qc 1 12 2] false [(0,3)] 1)] 1 [(0,0),(1,4)] [(2,.w (.one (.ptr 0 0 0))),(3,.w (.one (.iv (.int .i64 0)))),(4,.w (.one (.ptr 1 0 0)))] [(0,.mem 54 [.qc 1 12 0,.qc 1 12 1,.qc 1 12 2] false [(0,3)] 1),(1,.mem 54 [.qc 1 2 0,.qc 1 2 1,.qc 1 2 2] false [(0,3)] 1)] 2=true:=by kernel_rfl
noncomputable def LX:X5:=match Tryz.f6.body with|some c=>rh (dC (dC (dC (dC (c)))))|none=>.skip
theorem W3:runT ri 100000 0 132 LX [(2,.w (.one (.ptr 0 0 0))),(3,.w (.one (.iv (.int .i64 0)))),(4,.w (.one (.ptr 1 0 0)))] [(0,.mem 54 [.qc 1 12 0,.qc 1 12 1,.qc 1 12 2] false [(0,3)] 1),(1,.mem 54 [.qc 1 2 0,.qc 1 2 1,.qc 1 2 2] false [(0,3)] 1)] 2 [(0,0),(1,15),(2,7033),(3,7039),(4,7049),(5,7080),(6,7111)] [(2,.w (.one (.ptr 0 0 0))),(3,.w (.one (.iv (.int .i64 0)))),(6,.w (.one (.ptr 1 0 0))),(8,.w (.one (.iv (.int .i64 0))))] [(0,.mem 54 [.qc 1 12 0,.qc 1 12 1,.qc 1 12 2] false [(0,3)] 1),(1,.mem 30 [.iv (.int .i64 1),.slc 2 2 0 3 (.fin 1),.slc 3 2 0 3 (.fin 3)] false [(0,3)] 1),(2,.mem 28 [.slc 4 0 0 1 (.fin 3),.slc 5 0 0 1 (.fin 3),.slc 6 0 0 1 (.fin 3)] false [(2,3),(1,2),(0,1)] 3),(3,.mem 54 [.qc 1 6 0,.qc 1 6 1,.qc 1 6 2,.qc 2 3 0,.qc 2 3 1,.qc 2 3 2,.qc 1 6 0,.qc 1 6 1,.qc 1 6 2] false [(2,9),(1,6),(0,3)] 3),(4,.mem 54 [.qc 0 1 0,.qc 0 1 1,.qc 0 1 2] false [(0,3)] 1),(5,.mem 54 [.qc 1 2 0,.qc 1 2 1,.qc 1 2 2] false [(0,3)] 1),(6,.mem 54 [.qc 1 1 0,.qc 1 1 1,.qc 1 1 2] false [(0,3)] 1)] 7=true:=by kernel_rfl
noncomputable def LW:X5:=match Tryz.f6.body with|some c=>rh (dC (dC (dC (dC (dC (c))))))|none=>.skip
theorem W2:runT ri 100000 0 132 LW [(2,.w (.one (.ptr 0 0 0))),(3,.w (.one (.iv (.int .i64 0)))),(6,.w (.one (.ptr 1 0 0))),(8,.w (.one (.iv (.int .i64 0))))] [(0,.mem 54 [.qc 1 12 0,.qc 1 12 1,.qc 1 12 2] false [(0,3)] 1),(1,.mem 30 [.iv (.int .i64 1),.slc 2 2 0 3 (.fin 1),.slc 3 2 0 3 (.fin 3)] false [(0,3)] 1),(2,.mem 28 [.slc 4 0 0 1 (.fin 3),.slc 5 0 0 1 (.fin 3),.slc 6 0 0 1 (.fin 3)] false [(2,3),(1,2),(0,1)] 3),(3,.mem 54 [.qc 1 6 0,.qc 1 6 1,.qc 1 6 2,.qc 2 3 0,.qc 2 3 1,.qc 2 3 2,.qc 1 6 0,.qc 1 6 1,.qc 1 6 2] false [(2,9),(1,6),(0,3)] 3),(4,.mem 54 [.qc 0 1 0,.qc 0 1 1,.qc 0 1 2] false [(0,3)] 1),(5,.mem 54 [.qc 1 2 0,.qc 1 2 1,.qc 1 2 2] false [(0,3)] 1),(6,.mem 54 [.qc 1 1 0,.qc 1 1 1,.qc 1 1 2] false [(0,3)] 1)] 7 [(0,0),(1,1),(2,4268),(3,2),(4,3),(5,4474),(6,4496),(7,4),(8,5),(9,6)] [(2,.w (.one (.ptr 0 0 0))),(3,.w (.one (.iv (.int .i64 0)))),(6,.w (.one (.ptr 1 0 0))),(8,.w (.one (.iv (.int .i64 0)))),(10,.w (.one (.slc 2 2 0 2 (.fin 4)))),(11,.w (.one (.iv (.int .i64 14))))] [(0,.mem 54 [.qc 1 12 0,.qc 1 12 1,.qc 1 12 2] false [(0,3)] 1),(1,.mem 30 [.iv (.int .i64 1),.slc 3 2 0 3 (.fin 1),.slc 4 2 0 3 (.fin 3)] false [(0,3)] 1),(2,.mem 83 [.slc 5 0 0 1 (.fin 1),.qc (-1) 1 0,.qc (-1) 1 1,.qc (-1) 1 2,.slc 6 0 0 1 (.fin 1),.qc 1 1 0,.qc 1 1 1,.qc 1 1 2,.iv (.nil 3),.qc 0 1 0,.qc 0 1 1,.qc 0 1 2] false [(2,12),(1,0),(0,0)] 3),(3,.mem 28 [.slc 7 0 0 1 (.fin 3),.slc 8 0 0 1 (.fin 3),.slc 9 0 0 1 (.fin 3)] false [(2,3),(1,2),(0,1)] 3),(4,.mem 54 [.qc 1 6 0,.qc 1 6 1,.qc 1 6 2,.qc 2 3 0,.qc 2 3 1,.qc 2 3 2,.qc 1 6 0,.qc 1 6 1,.qc 1 6 2] false [(2,9),(1,6),(0,3)] 3),(5,.mem 3 [.iv (.int .i64 1)] false [(0,1)] 1),(6,.mem 3 [.iv (.int .i64 2)] false [(0,1)] 1),(7,.mem 54 [.qc 0 1 0,.qc 0 1 1,.qc 0 1 2] false [(0,3)] 1),(8,.mem 54 [.qc 1 2 0,.qc 1 2 1,.qc 1 2 2] false [(0,3)] 1),(9,.mem 54 [.qc 1 1 0,.qc 1 1 1,.qc 1 1 2] false [(0,3)] 1)] 10=true:=by kernel_rfl
noncomputable def LV:X5:=match Tryz.f6.body with|some c=>rh (dC (dC (dC (dC (dC (dC (c)))))))|none=>.skip
theorem W1:runT ri 100000 0 132 LV [(2,.w (.one (.ptr 0 0 0))),(3,.w (.one (.iv (.int .i64 0)))),(6,.w (.one (.ptr 1 0 0))),(8,.w (.one (.iv (.int .i64 0)))),(10,.w (.one (.slc 2 2 0 2 (.fin 4)))),(11,.w (.one (.iv (.int .i64 14))))] [(0,.mem 54 [.qc 1 12 0,.qc 1 12 1,.qc 1 12 2] false [(0,3)] 1),(1,.mem 30 [.iv (.int .i64 1),.slc 3 2 0 3 (.fin 1),.slc 4 2 0 3 (.fin 3)] false [(0,3)] 1),(2,.mem 83 [.slc 5 0 0 1 (.fin 1),.qc (-1) 1 0,.qc (-1) 1 1,.qc (-1) 1 2,.slc 6 0 0 1 (.fin 1),.qc 1 1 0,.qc 1 1 1,.qc 1 1 2,.iv (.nil 3),.qc 0 1 0,.qc 0 1 1,.qc 0 1 2] false [(2,12),(1,0),(0,0)] 3),(3,.mem 28 [.slc 7 0 0 1 (.fin 3),.slc 8 0 0 1 (.fin 3),.slc 9 0 0 1 (.fin 3)] false [(2,3),(1,2),(0,1)] 3),(4,.mem 54 [.qc 1 6 0,.qc 1 6 1,.qc 1 6 2,.qc 2 3 0,.qc 2 3 1,.qc 2 3 2,.qc 1 6 0,.qc 1 6 1,.qc 1 6 2] false [(2,9),(1,6),(0,3)] 3),(5,.mem 3 [.iv (.int .i64 1)] false [(0,1)] 1),(6,.mem 3 [.iv (.int .i64 2)] false [(0,1)] 1),(7,.mem 54 [.qc 0 1 0,.qc 0 1 1,.qc 0 1 2] false [(0,3)] 1),(8,.mem 54 [.qc 1 2 0,.qc 1 2 1,.qc 1 2 2] false [(0,3)] 1),(9,.mem 54 [.qc 1 1 0,.qc 1 1 1,.qc 1 1 2] false [(0,3)] 1)] 10 [(0,0),(1,1),(2,2),(3,5184),(4,3),(5,4),(6,5),(7,6),(8,4597),(9,7),(10,8),(11,9),(12,4552),(13,5023),(14,5130),(15,4549),(16,4567),(17,4585),(18,5020),(19,5038),(20,5056),(21,5127),(22,5145),(23,5163)] [(2,.w (.one (.ptr 0 0 0))),(3,.w (.one (.iv (.int .i64 0)))),(6,.w (.one (.ptr 1 0 0))),(8,.w (.one (.iv (.int .i64 0)))),(10,.w (.one (.slc 2 2 0 2 (.fin 4)))),(11,.w (.one (.iv (.int .i64 14)))),(12,.w (.one (.ptr 3 0 0))),(13,.w (.one (.iv (.int .i64 0))))] [(0,.mem 54 [.qc 1 12 0,.qc 1 12 1,.qc 1 12 2] false [(0,3)] 1),(1,.mem 30 [.iv (.int .i64 1),.slc 4 2 0 3 (.fin 1),.slc 5 2 0 3 (.fin 3)] false [(0,3)] 1),(2,.mem 83 [.slc 6 0 0 1 (.fin 1),.qc (-1) 1 0,.qc (-1) 1 1,.qc (-1) 1 2,.slc 7 0 0 1 (.fin 1),.qc 1 1 0,.qc 1 1 1,.qc 1 1 2,.iv (.nil 3),.qc 0 1 0,.qc 0 1 1,.qc 0 1 2] false [(2,12),(1,0),(0,0)] 3),(3,.mem 42 [.iv (.int .i64 2),.iv (.nil 3),.slc 8 2 0 3 (.fin 1)] false [(0,3)] 1),(4,.mem 28 [.slc 9 0 0 1 (.fin 3),.slc 10 0 0 1 (.fin 3),.slc 11 0 0 1 (.fin 3)] false [(2,3),(1,2),(0,1)] 3),(5,.mem 54 [.qc 1 6 0,.qc 1 6 1,.qc 1 6 2,.qc 2 3 0,.qc 2 3 1,.qc 2 3 2,.qc 1 6 0,.qc 1 6 1,.qc 1 6 2] false [(2,9),(1,6),(0,3)] 3),(6,.mem 3 [.iv (.int .i64 1)] false [(0,1)] 1),(7,.mem 3 [.iv (.int .i64 2)] false [(0,1)] 1),(8,.mem 27 [.slc 12 2 0 3 (.fin 1),.slc 13 2 0 3 (.fin 1),.slc 14 2 0 3 (.fin 1)] false [(2,3),(1,2),(0,1)] 3),(9,.mem 54 [.qc 0 1 0,.qc 0 1 1,.qc 0 1 2] false [(0,3)] 1),(10,.mem 54 [.qc 1 2 0,.qc 1 2 1,.qc 1 2 2] false [(0,3)] 1),(11,.mem 54 [.qc 1 1 0,.qc 1 1 1,.qc 1 1 2] false [(0,3)] 1),(12,.mem 28 [.slc 15 0 0 2 (.fin 3),.slc 16 0 0 2 (.fin 3),.slc 17 0 0 2 (.fin 3)] false [(2,3),(1,2),(0,1)] 3),(13,.mem 28 [.slc 18 0 0 2 (.fin 3),.slc 19 0 0 2 (.fin 3),.slc 20 0 0 2 (.fin 3)] false [(2,3),(1,2),(0,1)] 3),(14,.mem 28 [.slc 21 0 0 2 (.fin 3),.slc 22 0 0 2 (.fin 3),.slc 23 0 0 2 (.fin 3)] false [(2,3),(1,2),(0,1)] 3),(15,.mem 54 [.qc 0 1 0,.qc 0 1 1,.qc 0 1 2,.qc 0 1 0,.qc 0 1 1,.qc 0 1 2] false [(0,6)] 1),(16,.mem 54 [.qc 2 1 0,.qc 2 1 1,.qc 2 1 2,.qc 0 1 0,.qc 0 1 1,.qc 0 1 2] false [(0,6)] 1),(17,.mem 54 [.qc 1 1 0,.qc 1 1 1,.qc 1 1 2,.qc 1 1 0,.qc 1 1 1,.qc 1 1 2] false [(0,6)] 1),(18,.mem 54 [.qc 0 1 0,.qc 0 1 1,.qc 0 1 2,.qc 2 1 0,.qc 2 1 1,.qc 2 1 2] false [(0,6)] 1),(19,.mem 54 [.qc 0 1 0,.qc 0 1 1,.qc 0 1 2,.qc 0 1 0,.qc 0 1 1,.qc 0 1 2] false [(0,6)] 1),(20,.mem 54 [.qc 1 1 0,.qc 1 1 1,.qc 1 1 2,.qc 1 1 0,.qc 1 1 1,.qc 1 1 2] false [(0,6)] 1),(21,.mem 54 [.qc 1 1 0,.qc 1 1 1,.qc 1 1 2,.qc 1 1 0,.qc 1 1 1,.qc 1 1 2] false [(0,6)] 1),(22,.mem 54 [.qc 2 1 0,.qc 2 1 1,.qc 2 1 2,.qc 2 1 0,.qc 2 1 1,.qc 2 1 2] false [(0,6)] 1),(23,.mem 54 [.qc 0 1 0,.qc 0 1 1,.qc 0 1 2,.qc 2 1 0,.qc 2 1 1,.qc 2 1 2] false [(0,6)] 1)] 24=true:=by kernel_rfl
noncomputable def LU:X5:=match Tryz.f6.body with|some c=>rh (dC (dC (dC (dC (dC (dC (dC (c))))))))|none=>.skip
theorem W0:runT ri 100000 0 132 LU [(2,.w (.one (.ptr 0 0 0))),(3,.w (.one (.iv (.int .i64 0)))),(6,.w (.one (.ptr 1 0 0))),(8,.w (.one (.iv (.int .i64 0)))),(10,.w (.one (.slc 2 2 0 2 (.fin 4)))),(11,.w (.one (.iv (.int .i64 14)))),(12,.w (.one (.ptr 3 0 0))),(13,.w (.one (.iv (.int .i64 0))))] [(0,.mem 54 [.qc 1 12 0,.qc 1 12 1,.qc 1 12 2] false [(0,3)] 1),(1,.mem 30 [.iv (.int .i64 1),.slc 4 2 0 3 (.fin 1),.slc 5 2 0 3 (.fin 3)] false [(0,3)] 1),(2,.mem 83 [.slc 6 0 0 1 (.fin 1),.qc (-1) 1 0,.qc (-1) 1 1,.qc (-1) 1 2,.slc 7 0 0 1 (.fin 1),.qc 1 1 0,.qc 1 1 1,.qc 1 1 2,.iv (.nil 3),.qc 0 1 0,.qc 0 1 1,.qc 0 1 2] false [(2,12),(1,0),(0,0)] 3),(3,.mem 42 [.iv (.int .i64 2),.iv (.nil 3),.slc 8 2 0 3 (.fin 1)] false [(0,3)] 1),(4,.mem 28 [.slc 9 0 0 1 (.fin 3),.slc 10 0 0 1 (.fin 3),.slc 11 0 0 1 (.fin 3)] false [(2,3),(1,2),(0,1)] 3),(5,.mem 54 [.qc 1 6 0,.qc 1 6 1,.qc 1 6 2,.qc 2 3 0,.qc 2 3 1,.qc 2 3 2,.qc 1 6 0,.qc 1 6 1,.qc 1 6 2] false [(2,9),(1,6),(0,3)] 3),(6,.mem 3 [.iv (.int .i64 1)] false [(0,1)] 1),(7,.mem 3 [.iv (.int .i64 2)] false [(0,1)] 1),(8,.mem 27 [.slc 12 2 0 3 (.fin 1),.slc 13 2 0 3 (.fin 1),.slc 14 2 0 3 (.fin 1)] false [(2,3),(1,2),(0,1)] 3),(9,.mem 54 [.qc 0 1 0,.qc 0 1 1,.qc 0 1 2] false [(0,3)] 1),(10,.mem 54 [.qc 1 2 0,.qc 1 2 1,.qc 1 2 2] false [(0,3)] 1),(11,.mem 54 [.qc 1 1 0,.qc 1 1 1,.qc 1 1 2] false [(0,3)] 1),(12,.mem 28 [.slc 15 0 0 2 (.fin 3),.slc 16 0 0 2 (.fin 3),.slc 17 0 0 2 (.fin 3)] false [(2,3),(1,2),(0,1)] 3),(13,.mem 28 [.slc 18 0 0 2 (.fin 3),.slc 19 0 0 2 (.fin 3),.slc 20 0 0 2 (.fin 3)] false [(2,3),(1,2),(0,1)] 3),(14,.mem 28 [.slc 21 0 0 2 (.fin 3),.slc 22 0 0 2 (.fin 3),.slc 23 0 0 2 (.fin 3)] false [(2,3),(1,2),(0,1)] 3),(15,.mem 54 [.qc 0 1 0,.qc 0 1 1,.qc 0 1 2,.qc 0 1 0,.qc 0 1 1,.qc 0 1 2] false [(0,6)] 1),(16,.mem 54 [.qc 2 1 0,.qc 2 1 1,.qc 2 1 2,.qc 0 1 0,.qc 0 1 1,.qc 0 1 2] false [(0,6)] 1),(17,.mem 54 [.qc 1 1 0,.qc 1 1 1,.qc 1 1 2,.qc 1 1 0,.qc 1 1 1,.qc 1 1 2] false [(0,6)] 1),(18,.mem 54 [.qc 0 1 0,.qc 0 1 1,.qc 0 1 2,.qc 2 1 0,.qc 2 1 1,.qc 2 1 2] false [(0,6)] 1),(19,.mem 54 [.qc 0 1 0,.qc 0 1 1,.qc 0 1 2,.qc 0 1 0,.qc 0 1 1,.qc 0 1 2] false [(0,6)] 1),(20,.mem 54 [.qc 1 1 0,.qc 1 1 1,.qc 1 1 2,.qc 1 1 0,.qc 1 1 1,.qc 1 1 2] false [(0,6)] 1),(21,.mem 54 [.qc 1 1 0,.qc 1 1 1,.qc 1 1 2,.qc 1 1 0,.qc 1 1 1,.qc 1 1 2] false [(0,6)] 1),(22,.mem 54 [.qc 2 1 0,.qc 2 1 1,.qc 2 1 2,.qc 2 1 0,.qc 2 1 1,.qc 2 1 2] false [(0,6)] 1),(23,.mem 54 [.qc 0 1 0,.qc 0 1 1,.qc 0 1 2,.qc 2 1 0,.qc 2 1 1,.qc 2 1 2] false [(0,6)] 1)] 24 [] [(0,.w (.one (.iv (.bool true))))] [] 0=true:=by kernel_rfl
theorem QL{J:Keep}(L:LibI J):C J 6 [] (.bool true):=by
 refine DU (X:=XE J) J.bel (xs:=[]) Tryz.func6 rfl rfl rfl rfl 0 ?_;refine SW.RS ?_;conv=>whnf
 refine SW.to (s':=aP [] [] 0) (To.tab [] trivial trivial rfl) ?_;refine pL (x:=L0) (np rfl) (qa L) W6 ?_;refine pL (x:=LZ) (np rfl) (qa L) W5 ?_;refine pL (x:=LY) (np rfl) (qa L) W4 ?_;refine pL (x:=LX) (np rfl) (qa L) W3 ?_;refine pL (x:=LW) (np rfl) (qa L) W2 ?_;refine pL (x:=LV) (np rfl) (qa L) W1 ?_;refine pL (x:=LU) (np rfl) (qa L) W0 ?_;refine SW.ret ?_;rfl
end Go.Proofs.En
namespace Go.Proofs.Fl
open Go.RowKit Go.Proofs.Dig
attribute [local irreducible] IntKind.wrap a7 be bq bw
open Go.Proofs.En (dq kW zF evS tj vJ GX)
open Go.Proofs.Reg (Tm dt Hb bu)
theorem r9{x:Num3}(h:x.tame=true):Hb 14 x.q:=by
 unfold Num3.tame at h;simp only[fy,NB,NI,NJ] at h;obtain⟨⟨⟨⟨h1,h2⟩,h3⟩,h4⟩,h5⟩:=h;show Hb 14 (oI x.n x.d^(x.p%4+1));rw[h1,B0];unfold oI;obtain⟨D,hD⟩:∃D:Int,(if x.d=0 then 1 else x.d:Int)=D:=⟨_,rfl⟩;have hD0:D≠0/\D<=9999/\ -9999<=D:=by rw[<-hD];split<;>omega
 rw[hD,<-En.KU];refine Hb.mk (by omega) ?_ (by omega);have:(En.qE D x.n).natAbs=x.n.natAbs:=by
  unfold En.qE;split<;>omega
 omega
theorem Rj{f:List Tm}{j:Nat}(h:∀t∈f,Hb j t.2)(hs:f.length*(j+1)<2^34)(hj:j<2^34):zG f:=by
 refine⟨fun t ht=>by have:=dG (h t ht);omega,fun i hi o ho=>?_⟩;have h1:=dG (Reg.TR (fun t ht=>h t (dY ht)) o ho);have h2:(f.take i).length*(j+1)<=f.length*(j+1):=bU _ (by simp;omega);omega
end Go.Proofs.Fl
namespace Go.Proofs.Fl
open Go.RowKit Go.Proofs.Dig
attribute [local irreducible] IntKind.wrap a7 be bq bw
open Go.Proofs.En (fT tw Jv)
theorem TD:∀n:Nat,n<=4->∀d:Nat,d<=24->ge ((n:Int)+(d:Int)) n<=500->(Reg.cQ n d).length<=10000:=by decide +kernel
theorem TC:∀n:Nat,n<=4->∀d:Nat,d<=8->ge ((n:Int)+(d:Int)) n<=500:=by decide +kernel
theorem UH(n:Nat)(h:n<=4)(d:Nat)(hd:d<=24) : -9223372036854775808<=ge ((n:Int)+(d:Int)) n/\ge ((n:Int)+(d:Int)) n<=9223372036854775807:=by
 have:∀n:Nat,n<=4->∀d:Nat,d<=24-> -9223372036854775808<=ge ((n:Int)+(d:Int)) n/\ge ((n:Int)+(d:Int)) n<=9223372036854775807:=by decide +kernel
 exact this n h d hd
end Go.Proofs.Fl
namespace Go.Proofs.Fl
open Go.RowKit Go.ChangeShapes Go.WideShapes
attribute [local irreducible] IntKind.wrap a7 be bq bw
theorem QO{P:Tz}{n:String}{g:Nat}{k:IntKind}{zs:List Int}{w w':my}(hg:P.globalNamed n=some g)(h:Lib.TabIs P w n k zs)(hb:Below w.heap.size w w'):Lib.TabIs P w' n k zs:=by
 unfold Lib.TabIs World.var? at h ⊢;rw[hg] at h ⊢;simp only[Nb] at h ⊢;have hlt:g<w.heap.size:=by
  rcases fx g w.heap.size with h'|h'
  . exact h'
  . rw[tP h'] at h;cases h
 rw[hb.block g hlt];exact h
theorem Mk:Tryz.prog.globalNamed "internal/strconv.uint64pow10" = some ((Tryz.prog.globalNamed "internal/strconv.uint64pow10").getD 0):=by kernel_rfl
theorem PA{n m:Nat}{w w':my}(h:Below n w w')(hm:m<=n):Below m w w':=⟨h.os,h.tape,h.output,h.size,fun k hk=>h.block k (by omega)⟩
def El:Keep where
 I w:=Lib.TabIs Tryz.prog w "internal/strconv.uint64pow10" .u64 Lib.pow10Tab
 bel n w w' h hn hb:=QO Mk h (PA hb hn)
 ro:=fun r=>r=none
 r0:=rfl
theorem WH:LibI El:=⟨fun _ h=>h⟩
theorem PB{W W':my}(h:Below W.heap.size W W')(may:MemPlace->Prop):W.keptBut W' may:=by
 refine⟨h.os,h.output,fun i hi=>?_⟩;rw[h.block i hi];cases W.heap[i]? with
 |none=>rfl
 |some o=>cases o<;>first|rfl|exact⟨rfl,rfl,rfl,fun _ _=>rfl⟩|exact .inr ⟨rfl,rfl⟩
theorem FS{H:Type}{enc:me×X3->H}{P:Tz}(hl:laidOutB P=true){W W':my}(hb:Below W.heap.size W W'):∀{ts:List me} {vs:List X3} {ds:List (DataW H)} {ps:List MemPlace},
 ts.all (fun t=>P.readableRec t&&decide (t<P.types.size))=true->DataW.TrodAll enc P W 0 (fun _=>true) true ts vs ds ps->(∀x∈ps,x.block<W.heap.size)->DataW.TrodAll enc P W' 0 (fun b=>decide (b<W.heap.size)) true ts vs ds ps
 | [],_,_,_,_,h,_=>by
  obtain⟨rfl,rfl,rfl⟩:=trodAll_nil h;exact h
 |t::ts,_,_,_,hr,h,hlt=>by
  obtain⟨v,vs1,d,ds1,a,b,rfl,rfl,rfl,h1,h2⟩:=trodAll_cons h;simp only[cF,az,dL] at hr;exact⟨a,b,Below.trod hl hr.1.1 hr.1.2 h1 hb (fun x hx=>hlt x (by simp[hx])),FS hl hb (by simpa using hr.2) h2 (fun x hx=>hlt x (by simp[hx])),rfl⟩
theorem TM:laidOutB Tryz.prog=true:=by kernel_rfl
theorem WD:ownKnob Tryz.prog.godebug=none:=by kernel_rfl
theorem Pk{f:qe}{fn:Func}{s:ChangeSpec}{laid:List (String×DataW Unit)}{os:Os}(started:os.Started){H:Type}{enc:me×X3->H}
 (hfn:Tryz.prog.funcs[f]?=some fn) (noInit:Tryz.prog.inits.idxOf? f=none) (hv:s.vars=[]) (hr:fn.resultTypes = #[4])
 (hs:∀ds:List (DataW H),ds.length=fn.params.toList.length->s.fn H ds = { results:=[.lit (.bool true)],args:=ds })
 (hread:fn.params.toList.all (fun t=>Tryz.prog.readableRec t&&decide (t<Tryz.prog.types.size))=true)
 (hlaid:∀W,laidMetH Tryz.prog laid W->Lib.TabIs Tryz.prog W "internal/strconv.uint64pow10" .u64 Lib.pow10Tab)
 (witness:∃(w:my) (tape:Tape) (i:Input),w.os=os/\(w.forCall tape i).Shaped Tryz.prog/\i.vars=[]/\Input.okWide Tryz.prog (w.forCall tape i) .any w.heap.size f i/\
   ((s.pre enc Tryz.prog fn [] false (w.forCall tape i).memory i.args/\laidMetH Tryz.prog laid (w.forCall tape i).memory)/\sizedMet enc Tryz.prog fn (OpenSpec.ofChange s) false (w.forCall tape i).memory i.args)/\({}:Assume).holds Tryz.prog (lone (Frame.enter Tryz.prog f i.args .normal) [] (w.forCall tape i)))
 (hlaw:∀(W:my) (base:Nat) (args:Array X3) (ds:List (DataW H)) (p:List MemPlace),(∀(j:Nat) t v,fn.params[j]?=some t->args[j]?=some v->Value.okWide Tryz.prog W .any base t v)->
   DataW.TrodAll enc Tryz.prog W 0 (fun _=>true) true fn.params.toList args.toList ds p->(∃us,(DataW.weightsEach Tryz.prog (fn.params.toList++us) ds).all (· <= reachBytes)=true)->∃(Hp:ah) (xs:List IV),HeapHas W Hp/\VRL Hp args.toList xs/\C El f xs (.bool true)) :
 ReturnsInHanded {} Tryz.checked os f .any (fun w args=>(s.pre enc Tryz.prog fn [] false w args/\laidMetH Tryz.prog laid w)/\sizedMet enc Tryz.prog fn (OpenSpec.ofChange s) false w args) (s.post enc Tryz.prog fn false true false false):=by
 refine returnsInHanded_of_calls (C:=Tryz.checked) WD started noInit witness ?_;intro w tape i _ hsh _ hok hpre _;obtain⟨_,_,_,fn',hfn',_,_,_,_,hval⟩:=hok;obtain rfl:fn'=fn:=AM (hfn'.symm.trans hfn);obtain⟨⟨⟨ds,gs,before,hw,hc⟩,hx⟩,hz⟩:=hpre;have hw':=DataW.Whole.of_heap (w':=w.forCall tape i) (by rfl) hw;have hx':laidMetH Tryz.prog laid (w.forCall tape i):=hx.of_heap (by rfl);obtain⟨W,hW⟩:∃W,w.forCall tape i=W:=⟨_,rfl⟩;rw[hW] at hsh hval hw' hx' ⊢;have hlt:=hw'.lt;have hw2:=hw';obtain⟨p,q,hA,hV,rfl,_,_⟩:=hw2;rw[hv] at hV;obtain⟨rfl,rfl⟩:gs=[]/\q=[]:=by
  cases gs with
  |nil=>exact⟨rfl,hV⟩
  |cons g r=>exact absurd hV (by intro h;cases h)
 obtain⟨Hp,xs,hH,hargs,hC⟩:=hlaw W w.heap.size i.args ds p hval hA ⟨_,by have:=hz.weights hw;rw[iw] at this;exact this⟩;have hI:El.I W:=hlaid W hx';unfold C a7 at hC;have hcall:=hC.2 Hp W i.args.toList hI hH hargs;have ha:i.args.toList.toArray=i.args:=rfl;rw[ha] at hcall;refine hcall.mono ?_;rintro e W' ⟨v,H',rfl,_,_,hvr,hb⟩;cases hvr;have hlen:ds.length=fn'.params.toList.length:=by
  have:∀{ts:List me} {vs:List X3} {ds:List (DataW H)} {ps:List MemPlace},DataW.TrodAll enc Tryz.prog W 0 (fun _=>true) true ts vs ds ps->ds.length=ts.length:=by
   intro ts;induction ts with
   |nil=>intro vs ds ps h;obtain⟨rfl,rfl,rfl⟩:=trodAll_nil h;rfl
   |cons t ts ih=>
    intro vs ds ps h;obtain⟨v,vs1,d,ds1,a,b,rfl,rfl,rfl,h1,h2⟩:=trodAll_cons h;simp[ih h2]
  exact this hA
 have e1:s.fn H (ds ++ []) = { results:=[.lit (.bool true)],args:=ds }:=by rw[iw];exact hs ds hlen
 refine ChangeSpec.post_blind ?_;refine⟨ds,[],p ++ [],[],p,[],hw',?_,?_,?_,PB hb _,fun h=>by cases h⟩
 . rw[e1,hr];exact trodAll_mk1 (shut_bool Tryz.underlying4 true)
 . rw[e1];exact FS TM hb hread hA (fun x hx=>hlt x (by simp[hx]))
 . rw[e1,hv];rfl
end Go.Proofs.Fl
namespace Go.Proofs.Fl
open Go.RowKit Go.ChangeShapes Go.WideShapes Go.Deep
attribute [local irreducible] IntKind.wrap a7 be bq bw
set_option maxRecDepth 100000
theorem V6{n:Int}(h:(Lit.int .u8 n).wf=true):∃p:Nat,n=(p:Int)/\p<256:=by
 simp only[Lit.wf,az,dL] at h;have e1:IntKind.u8.min=0:=rfl;have e2:IntKind.u8.max=255:=rfl;rw[e1,e2] at h;exact⟨n.toNat,by omega,by omega⟩
section
variable {H:Type}{enc:me × X3->H}{w:my}{base:Nat}{spare:Nat->Bool}{held:Bool}
end
noncomputable def L4(os:Os):my:=World.doorLaid Tryz.prog 65 os
theorem Rp:laidOutB YtalnhplbnklpoaaGreatDoor.Tryz.pinned.checked.prog=true:=by kernel_rfl
theorem UW:mapsRowed YtalnhplbnklpoaaGreatDoor.Tryz.pinned.checked.prog=true:=by kernel_rfl
set_option maxRecDepth 100000
theorem Db{n:Int}(h:(Lit.int .i64 n).wf=true) : -9223372036854775808<=n/\n<=9223372036854775807:=by
 simp only[Lit.wf,az,dL] at h;have e1:IntKind.i64.min = -9223372036854775808:=rfl;have e2:IntKind.i64.max=9223372036854775807:=rfl;rw[e1,e2] at h;exact h
section
variable {H:Type}{enc:me × X3->H}{w:my}{base:Nat}{spare:Nat->Bool}{held:Bool}
end
section
variable {H:Type}{enc:me × X3->H}{P:Tz}{w:my}{base:Nat}{spare:Nat->Bool}{held:Bool}
end
set_option maxRecDepth 100000
def kj(w:my):ah:=fun b=>match w.heap[b]? with
 |some (.cells c _ _)=>some c
 |_=>none
theorem Qn(w:my):HeapHas w (kj w):=fun b arr h=>by
 unfold kj at h;split at h
 . rename_i c et fr e;injection h with h;subst h;exact⟨et,fr,e⟩
 . cases h
def pk(P:Tz)(t:me)(zs:List IV):IV:=match P.underlying t with
 |some (.struct _)=>.agg zs
 |_=>zs.head?.getD (.bool false)
def mkV(P:Tz)(t:me)(cs:List X3):X3:=match P.underlying t with
 |some (.struct _)=>.agg cs.toArray
 |_=>cs.head?.getD .nilFunc
def Ax(F:me->List IV->Prop):List Field->List IV->Prop
 | [],ys=>ys=[]
 |f::fs,ys=>∃a b,F f.type a/\Ax F fs b/\ys=a++b
def Sh(P:Tz):Nat->me->List IV->Prop
 |0,_,_=>False
 |n+1,t,ys=>match P.underlying t with
  |some (.int k)=>∃z,ys=[.int k z]/\(Lit.int k z).wf=true
  |some (.slice e)=>∃es,ys=[.sl es]/\(es.length<2^63/\es.length*P.bytesOf e<=reachBytes)/\∀y∈es,∃zs,Sh P n e zs/\y=pk P e zs
  |some (.struct fs)=>Ax (fun t=>Sh P n t) fs.toList ys
  |_=>False
def vC(P:Tz)(T:Nat):List Field->Nat->Bool
 | [],o=>o==T
 |f::fs,o=>f.offset==o&&vC P T fs (o+P.cellsOf f.type)
def ks(P:Tz):Nat->me->Bool
 |0,_=>false
 |n+1,t=>match P.underlying t with
  |some (.int _)=>P.cellsOf t==1
  |some (.slice e)=>P.cellsOf t==1&&(Nat.blt 0 (P.cellsOf e)&&ks P n e)
  |some (.struct fs)=>vC P (P.cellsOf t) fs.toList 0&&fs.toList.all fun f=>ks P n f.type
  |_=>false
section
variable {H:Type}{enc:me × X3->H}{P:Tz}{w:my}{spare:Nat->Bool}{held:Bool}
theorem Ku{a:Addr}{k n:Nat}{cs:List X3}(hn:0<n)(h:w.cells? 0 (a.add k) n=some cs) :
 (k=0->a=⟨a.block,a.off,none⟩)/\∃c,kj w a.block=some c/\(c.toList.drop (a.off+k)).take n=cs:=by
 obtain⟨_,hl,hc⟩:=World.cells?_some h;have hc0:=hc 0 hn;rw[add_add] at hc0;obtain⟨x,hx⟩:∃x,cs[0]?=some x:=⟨_,a6 (by omega)⟩;rw[hx] at hc0;have hb:∀j,(a.add j).block=a.block/\(a.add j).off=a.off+j/\(j≠0->(a.add j).spot=none)/\(j=0->(a.add j).spot=a.spot):=fun j=>by
  unfold Addr.add;split
  . rename_i hj;subst hj;exact⟨rfl,rfl,fun h=>absurd rfl h,fun _=>rfl⟩
  . rename_i hj;exact⟨rfl,rfl,fun _=>rfl,fun h=>absurd h hj⟩
 obtain⟨c,et,fr,hbk,hsp⟩:∃c et fr,w.heap[a.block]?=some (.cells c et fr)/\(a.add (k+0)).spot=none:=by
  unfold World.cell? at hc0;rw[(hb _).1] at hc0;cases hh:w.heap[a.block]? with
  |none=>rw[hh] at hc0;simp at hc0
  |some o=>
   rw[hh] at hc0;cases o with
   |cells c et fr=>
    refine⟨c,et,fr,rfl,?_⟩;cases hs:(a.add (k+0)).spot with
    |none=>rfl
    |some s=>rw[hs] at hc0;simp at hc0
   |_=>simp at hc0
 have hadd:∀i,a.add (k+i)=⟨a.block,a.off+(k+i),none⟩:=by
  intro i;obtain⟨h1,h2,h3,h4⟩:=hb (k+i);have h5:(a.add (k+i)).spot=none:=by
   by_cases hz:k+i=0
   . have:k+i=k+0:=by omega
     rw[this];exact hsp
   . exact h3 hz
  cases hq:a.add (k+i);rw[hq] at h1 h2 h5
  simp_all
 refine⟨fun hk=>?_,c,by unfold kj;rw[hbk],?_⟩
 . have:=hadd 0;subst hk;have h4:=(hb (0+0)).2.2.2 rfl;rw[hsp] at h4;cases a
   simp_all
 apply px;intro i;rw[cX];by_cases hi:i<n
 . rw[ay hi,<-hc i hi,add_add,hadd,ru];unfold World.cell?;simp only[hbk,tL];rw[lI];rfl
 . rw[am hi,ry (by omega)]
theorem mkV_ok{Hp:ah}{e:me}{cs:List X3}{ys:List IV}(hs:VRL Hp cs ys)(h1:∀v∈cs,v.oneCell'=true)(hl:(∃fs,P.underlying e=some (.struct fs))\/cs.length=1) :
 VR Hp (mkV P e cs) (pk P e ys)/\(mkV P e cs).cells.toList=cs:=by
 unfold mkV pk;split
 . exact⟨.agg _ _ hs h1,by simp[Value.cells]⟩
 . rename_i hne;rcases hl with⟨fs,h⟩|hl
   . exact absurd h (hne fs)
   . cases hs with
     |nil=>cases hl
     |cons v x vs xs h t=>
      cases vs with
      |cons _ _=>simp at hl
      |nil=>
       cases t;refine⟨h,?_⟩;have:=(h.of_one (h1 v (by simp))).1;show v.cells.toList=[v];rw[this]
theorem Jg{n:Nat}{e:me}(h:ks P n e=true):(∃fs,P.underlying e=some (.struct fs))\/P.cellsOf e=1:=by
 cases n with
 |zero=>cases h
 |succ n=>
  unfold ks at h;split at h
  . exact .inr (by simpa using h)
  . exact .inr (by simp only[az,wu] at h;exact h.1)
  . rename_i fs hf;exact .inl ⟨fs,hf⟩
  . cases h
theorem IL{Q:me->List IV->Prop}{Hp:ah}{cs:List X3} :
 ∀(l:List Field) (o:Nat),vC P cs.length l o=true->
  (∀f∈l,((cs.drop f.offset).take (P.cellsOf f.type)).length=P.cellsOf f.type/\(∀v∈(cs.drop f.offset).take (P.cellsOf f.type),v.oneCell'=true)/\∃ys,VRL Hp ((cs.drop f.offset).take (P.cellsOf f.type)) ys/\Q f.type ys)->
  (∀v∈cs.drop o,v.oneCell'=true)/\∃ys,VRL Hp (cs.drop o) ys/\Ax Q l ys
 | [],o,ho,_=>by
  have ho:o=cs.length:=by simpa[vC] using ho
  rw[ho,Nx];exact⟨fun v hv=>(bt hv).elim,[],.nil,rfl⟩
 |f::l,o,ho,hf=>by
  simp only[vC,az,wu] at ho;obtain⟨h1,h2⟩:=ho;obtain⟨a1,a2,ys,a3,a4⟩:=hf f (by simp);rw[h1] at a1 a2 a3;obtain⟨b1,zs,b2,b3⟩:=IL l _ h2 fun g hg=>hf g (eB _ hg);have e:cs.drop o=(cs.drop o).take (P.cellsOf f.type)++cs.drop (o+P.cellsOf f.type):=by
   rw[<-nU,jQ]
  rw[e];refine⟨fun v hv=>?_,ys++zs,a3.append b2,ys,zs,a4,b3,rfl⟩;rcases List.mem_append.1 hv with h|h
  . exact a2 v h
  . exact b1 v h
theorem PS{c:List X3}{off sz:Nat}{Vz9:Nat->X3}{len:Nat}(h:∀i,i<len->(c.drop (off+i*sz)).take sz=(Vz9 i).cells.toList) :
 ∀k,k<=len->(c.drop off).take (k*sz)=aR ((List.range k).map Vz9):=by
 intro k;induction k with
 |zero=>intro _;simp[aR]
 |succ k ih=>
  intro hk;rw[n5,List.take_add,ih (by omega),AU,dE,nU,h k (by omega)];unfold aR;rw[iP];congr 1;simp
theorem FG{e:me}:∀{l:List (DataW H)} {d:DataW H},d∈l->∀n∈d.weights P e,n∈DataW.weightsAll P e l
 |x::l,d,h,n,hn=>by
  rw[DataW.weightsAll,rt];rcases List.mem_cons.1 h with rfl|h
  . exact .inl hn
  . exact .inr (FG h n hn)
theorem DS:∀{n:Nat} {t:me} {m:Nat} {cs:List X3} {x:DataW H×List MemPlace},ks P n t=true->(∀k∈x.1.weights P t,k<=reachBytes)->DataW.trod enc P w 0 spare held m t cs=some x->
 cs.length=P.cellsOf t/\(∀v∈cs,v.oneCell'=true)/\∃ys,VRL (kj w) cs ys/\Sh P n t ys
 |0,_,_,_,_,hs,_,_=>by cases hs
 |n+1,t,m,cs,x,hs,hw,h=>by
  unfold ks at hs;unfold Sh;split at hs
  . rename_i k ht;have hc:P.cellsOf t=1:=by simpa using hs
    obtain⟨z,hcs,_,hwf⟩:=DataW.trod_int ht h;subst hcs;refine⟨hc.symm,fun v hv=>by rw[List.mem_singleton.1 hv];rfl,[.int k z],.cons _ _ _ _ (.int _ _) .nil,?_⟩;exact⟨z,rfl,hwf⟩
  . rename_i e ht;simp only[az,wu] at hs;obtain⟨hc,hz,he⟩:=hs;have hz:0<P.cellsOf e:=aG hz;have nilc:∀a c,cs=[.slice a 0 c]->cs.length=P.cellsOf t/\(∀v∈cs,v.oneCell'=true)/\∃ys,VRL (kj w) cs ys/\∃es,ys=[.sl es]/\(es.length<2^63/\es.length*P.bytesOf e<=reachBytes)/\∀y∈es,∃zs,Sh P n e zs/\y=pk P e zs:=by
     intro a c hcs;subst hcs;exact⟨hc.symm,fun v hv=>by rw[List.mem_singleton.1 hv];rfl,[.sl []],.cons _ _ _ _ (.sl0 _ _) .nil,[],rfl,⟨by decide,by simp⟩,fun y hy=>(bt hy).elim⟩
    rcases open_slice ht h with⟨h0,_⟩|⟨a,len,cap,m',n',D,Pl,hcs,hb,hl,hm,hmm,hxe,hx⟩
    . exact nilc _ _ h0
    . by_cases hlen:len=0
      . subst hlen;exact nilc _ _ hcs
      have hlm:len<=m':=by rw[hmm];split<;>omega
      rw[hxe] at hw;simp only[DataW.weights,ht,eZ,rt,bR,NK] at hw;have hw0:=hw _ (.inl rfl);have hwl:len*P.bytesOf e<=reachBytes:=aY (bU _ (wA _ _)) hw0;have hwi:∀i,i<len->∀k∈(D i).weights P e,k<=reachBytes:=fun i hi k hk=>hw k (.inr (.inl (FG (List.mem_map.2 ⟨i,by simpa using hi,rfl⟩) k hk)));obtain⟨N,hN⟩:=choose_lt (α:=List X3×List IV) (n:=len) (p:=fun i q=>w.cells? 0 (a.add (i*P.cellsOf e)) (P.cellsOf e)=some q.1/\q.1.length=P.cellsOf e/\(∀v∈q.1,v.oneCell'=true)/\VRL (kj w) q.1 q.2/\Sh P n e q.2) (fun i hi=>by
       obtain⟨cs',h1,h2⟩:=hx i (by omega);obtain⟨k1,k2,ys,k3,k4⟩:=DS (x:=(D i,Pl i)) he (hwi i hi) h2;exact⟨(cs',ys),h1,k1,k2,k3,k4⟩)
      have hmk:∀i,i<len->VR (kj w) (mkV P e (N i).1) (pk P e (N i).2)/\(mkV P e (N i).1).cells.toList=(N i).1:=fun i hi=>by
       obtain⟨_,k1,k2,k3,_⟩:=hN i hi;refine mkV_ok k3 k2 ?_;rcases Jg he with h|h
       . exact .inl h
       . exact .inr (by omega)
      obtain⟨ea,c,hbk,_⟩:=Ku hz (hN 0 (by omega)).1;have ea:=ea (mW _);have hat:∀i,i<len->(c.toList.drop (a.off+i*P.cellsOf e)).take (P.cellsOf e)=(mkV P e (N i).1).cells.toList:=fun i hi=>by
       obtain⟨_,c',hbk',h'⟩:=Ku hz (hN i hi).1;rw[hbk] at hbk';cases hbk';rw[(hmk i hi).2];exact h'
      have hvl:∀k,k<=len->VRL (kj w) ((List.range k).map fun i=>mkV P e (N i).1) ((List.range k).map fun i=>pk P e (N i).2):=by
       intro k;induction k with
       |zero=>intro _;exact .nil
       |succ k ih=>
        intro hk;rw[AU,dE,dE];exact(ih (by omega)).append (.cons _ _ _ _ (hmk k (by omega)).1 .nil)
      have hml:maxLen<2^63:=by decide
      subst hcs;refine⟨hc.symm,fun v hv=>by rw[List.mem_singleton.1 hv];rfl,[.sl ((List.range len).map fun i=>pk P e (N i).2)],.cons _ _ _ _ ?_ .nil,_,rfl,⟨by simp;omega,by rw[bR,NK];exact hwl⟩,fun y hy=>?_⟩
      . rw[ea];refine VR.sl a.block a.off len cap (P.cellsOf e) c ((List.range len).map fun i=>mkV P e (N i).1) _ hbk (hvl len (ak _)) (by simp) hl ?_ ?_
        . intro v hv;obtain⟨i,hi,rfl⟩:=List.mem_map.1 hv;have hi:i<len:=by simpa using hi
          have h1:=aJ List.length (hmk i hi).2;rw[(hN i hi).2.1] at h1;simpa using h1
        . rw[bR,NK];exact PS hat len (ak _)
      . obtain⟨i,hi,rfl⟩:=List.mem_map.1 hy;exact⟨_,(hN i (by simpa using hi)).2.2.2.2,rfl⟩
  . rename_i fs ht;simp only[az,kO] at hs;obtain⟨ho,hall⟩:=hs;obtain⟨xs,n',_,hxe,hl,hxl,hf⟩:=DataW.trod_struct ht h;rw[hxe] at hw;simp only[DataW.weights,ht] at hw;rw[<-hl] at ho;have:=IL (P:=P) (Q:=fun t=>Sh P n t) (Hp:=kj w) fs.toList 0 ho fun f hfm=>by
     obtain⟨i,hi⟩:=List.mem_iff_getElem?.1 hfm;have hi':fs[i]?=some f:=by simpa using hi
     have hlt:i<fs.size:=by
      rcases fx i fs.size with h|h
      . exact h
      . rw[tP h] at hi';cases hi'
     have h1:=hf i f hi';obtain⟨y,hy⟩:∃y,xs[i]?=some y:=⟨_,a6 (by omega)⟩;rw[hy] at h1;exact DS (x:=y) (hall f hfm) (fun k hk=>hw k (AV (j:=i) (t:=f.type) (d:=y.1) (by rw[bQ];simp[hi']) (by rw[bQ,hy];rfl) k hk)) h1
    exact⟨hl,this⟩
  . cases hs
theorem yZ{n:Nat}{t:me}{v:X3}{d:DataW H}{r:Reach}{b0:Nat}(hs:ks P n t=true)(hw:∀k∈d.weights P t,k<=reachBytes)(hv:Value.okWide P w r b0 t v)(h:∃p,DataW.Trod enc P w 0 spare held t v d p):∃ys,VR (kj w) v (pk P t ys)/\Sh P n t ys:=by
 obtain⟨p,fuel,hf⟩:=h;obtain⟨h1,h2,ys,h3,h4⟩:=DS (x:=(d,p)) hs hw hf;refine⟨ys,?_,h4⟩;have:=(mkV_ok (P:=P) (e:=t) h3 h2 (by
  rcases Jg hs with h|h
  . exact .inl h
  . exact .inr (by omega))).1
 have e:mkV P t v.cells.toList=v:=by
  cases n with
  |zero=>cases hs
  |succ n=>
   unfold ks at hs;unfold mkV;split at hs
   . rename_i k ht;obtain⟨z,rfl⟩:=okWide_int ht hv;rw[ht];rfl
   . rename_i e ht;obtain⟨a,l,c,rfl⟩:=okWide_slice ht hv;rw[ht];rfl
   . rename_i fs ht;obtain⟨cs,rfl,_⟩:=okWide_struct ht hv;rw[ht];simp[Value.cells]
   . cases hs
 rw[e] at this;exact this
theorem Sh.int{n:Nat}{t:me}{k:IntKind}{ys:List IV}(ht:P.underlying t=some (.int k))(h:Sh P (n+1) t ys):∃z,ys=[.int k z]/\(Lit.int k z).wf=true:=by
 unfold Sh at h;rw[ht] at h;exact h
theorem Sh.sl{n:Nat}{t e:me}{ys:List IV}(ht:P.underlying t=some (.slice e))(h:Sh P (n+1) t ys):∃es,ys=[.sl es]/\(es.length<2^63/\es.length*P.bytesOf e<=reachBytes)/\∀y∈es,∃zs,Sh P n e zs/\y=pk P e zs:=by
 unfold Sh at h;rw[ht] at h;exact h
theorem Sh.st{n:Nat}{t:me}{fs:Array Field}{ys:List IV}(ht:P.underlying t=some (.struct fs))(h:Sh P (n+1) t ys):Ax (fun t=>Sh P n t) fs.toList ys:=by
 unfold Sh at h;rw[ht] at h;exact h
end
theorem xt{α U:Type}{f:α->U}{Q:α->Prop}:∀{l:List U},(∀y∈l,∃x,y=f x/\Q x)->∃k:List α,l=k.map f/\∀x∈k,Q x
 | [],_=>⟨[],rfl,fun _ h=>(bt h).elim⟩
 |y::l,h=>by
  obtain⟨x,rfl,hx⟩:=h y (by simp);obtain⟨k,rfl,hk⟩:=xt fun z hz=>h z (eB _ hz);exact⟨x::k,rfl,fun z hz=>by rcases List.mem_cons.1 hz with rfl|hz;exact hx;exact hk z hz⟩
theorem Di{n:Nat}{ys:List IV}(h:Sh Tryz.prog (n+2) 45 ys):∃x:Num3,ys=[.int .i64 x.n,.int .i64 x.d,.int .u8 (x.p:Int)]/\x.ok:=by
 obtain⟨_,_,h1,⟨_,_,h2,⟨_,_,h3,rfl,rfl⟩,rfl⟩,rfl⟩:=Sh.st Tryz.underlying45 h;obtain⟨a,rfl,ha⟩:=Sh.int Tryz.underlying2 h1;obtain⟨b,rfl,hb⟩:=Sh.int Tryz.underlying2 h2;obtain⟨c,rfl,hc⟩:=Sh.int Tryz.underlying5 h3;obtain⟨p,rfl,hp⟩:=V6 hc;exact⟨⟨a,b,p⟩,rfl,Db ha,Db hb,hp⟩
theorem Jj{n:Nat}{ys:List IV}(h:Sh Tryz.prog (n+3) 23 ys):∃l:List Num3,ys=[.sl (l.map Num3.iv)]/\l.length<2^63/\∀x∈l,x.ok:=by
 obtain⟨es,rfl,hl,he⟩:=Sh.sl Tryz.underlying23 h;obtain⟨k,rfl,hk⟩:=xt (f:=Num3.iv) (Q:=Num3.ok) fun y hy=>by
  obtain⟨zs,h1,rfl⟩:=he y hy;obtain⟨x,rfl,hx⟩:=Di h1;exact⟨x,by unfold pk;rw[Tryz.underlying45];rfl,hx⟩
 exact⟨k,rfl,by simpa using hl.1,hk⟩
set_option maxRecDepth 100000
def rowI(r:List Num3):IV:=.sl (r.map Num3.iv)
structure Swm where
 n:Int
 at_:List (List Num3)
 ws:List Num3
def Swm.iv(x:Swm):IV:=.agg [.int .i64 x.n,.sl (x.at_.map rowI),.sl (x.ws.map Num3.iv)]
structure Swm.Ok(x:Swm):Prop where
 i : -9223372036854775808<=x.n/\x.n<=9223372036854775807
 l:x.at_.length*24<=reachBytes
 r:∀r∈x.at_,r.length<2^63/\∀y∈r,y.ok
 w:x.ws.length<2^63/\∀y∈x.ws,y.ok
theorem Sb{n:Nat}{ys:List IV}(h:Sh Tryz.prog (n+4) 22 ys):∃l:List (List Num3),ys=[.sl (l.map rowI)]/\l.length*24<=reachBytes/\∀r∈l,r.length<2^63/\∀x∈r,x.ok:=by
 obtain⟨es,rfl,hl,he⟩:=Sh.sl Tryz.underlying22 h;obtain⟨k,rfl,hk⟩:=xt (f:=rowI) (Q:=fun r:List Num3=>r.length<2^63/\∀x∈r,x.ok) fun y hy=>by
  obtain⟨zs,h1,rfl⟩:=he y hy;obtain⟨r,rfl,hr,hx⟩:=Jj h1;exact⟨r,by unfold pk;rw[Tryz.underlying23];rfl,hr,hx⟩
 exact⟨k,rfl,by have:=hl.2;rw[show Tryz.prog.bytesOf 23=24 by kernel_rfl,bR] at this;exact this,hk⟩
theorem KH{n:Nat}{ys:List IV}(h:Sh Tryz.prog (n+5) 25 ys):∃x:Swm,ys=[.int .i64 x.n,.sl (x.at_.map rowI),.sl (x.ws.map Num3.iv)]/\x.Ok:=by
 obtain⟨_,_,h1,⟨_,_,h2,⟨_,_,h3,rfl,rfl⟩,rfl⟩,rfl⟩:=Sh.st Tryz.underlying25 h;obtain⟨a,rfl,ha⟩:=Sh.int Tryz.underlying3 h1;obtain⟨l,rfl,hl,hr⟩:=Sb h2;obtain⟨w,rfl,hw,hx⟩:=Jj h3;exact⟨⟨a,l,w⟩,rfl,Db ha,hl,hr,hw,hx⟩
theorem Jk{n:Nat}{ys:List IV}(h:Sh Tryz.prog (n+4) 26 ys):∃l:List Gap6,ys=[.sl (l.map Gap6.iv)]/\l.length<2^63/\∀g∈l,g.ok:=by
 obtain⟨es,rfl,hl,he⟩:=Sh.sl Tryz.underlying26 h;obtain⟨k,rfl,hk⟩:=xt (f:=Gap6.iv) (Q:=Gap6.ok) fun y hy=>by
  obtain⟨zs,h1,rfl⟩:=he y hy;obtain⟨_,_,h2,⟨_,_,h3,rfl,rfl⟩,rfl⟩:=Sh.st Tryz.underlying47 h1;obtain⟨a,rfl,ha⟩:=Di h2;obtain⟨b,rfl,hb⟩:=Di h3;exact⟨⟨a,b⟩,by unfold pk;rw[Tryz.underlying47];rfl,ha,hb⟩
 exact⟨k,rfl,by simpa using hl.1,hk⟩
theorem OV{H:Type}{enc:me×X3->H}{P:Tz}{w:my}{base:Nat}{spare:Nat->Bool}{held:Bool}{t0 t1 t2 t3:me}{args:Array X3}{ds:List (DataW H)}{ps:List MemPlace}(h:DataW.TrodAll enc P w base spare held [t0,t1,t2,t3] args.toList ds ps) :
 ∃v0 v1 v2 v3 d0 d1 d2 d3,(∃p,DataW.Trod enc P w base spare held t0 v0 d0 p)/\(∃p,DataW.Trod enc P w base spare held t1 v1 d1 p)/\(∃p,DataW.Trod enc P w base spare held t2 v2 d2 p)/\(∃p,DataW.Trod enc P w base spare held t3 v3 d3 p)/\args = #[v0,v1,v2,v3]/\ds=[d0,d1,d2,d3]:=by
 obtain⟨v0,vs,d0,ds',p0,q,hargs,rfl,rfl,h0,h⟩:=trodAll_cons h;obtain⟨v1,vs,d1,ds',p1,q,rfl,rfl,rfl,h1,h⟩:=trodAll_cons h;obtain⟨v2,vs,d2,ds',p2,q,rfl,rfl,rfl,h2,h⟩:=trodAll_cons h;obtain⟨v3,vs,d3,ds',p3,q,rfl,rfl,rfl,h3,h⟩:=trodAll_cons h;obtain⟨rfl,rfl,rfl⟩:=trodAll_nil h;exact⟨v0,v1,v2,v3,d0,d1,d2,d3,⟨_,h0⟩,⟨_,h1⟩,⟨_,h2⟩,⟨_,h3⟩,Array.toList_inj.1 hargs,rfl⟩
end Go.Proofs.Fl
namespace Go.Proofs.Fl
open Go.RowKit Go.Proofs.Dig
attribute [local irreducible] IntKind.wrap a7 be bq bw
noncomputable def rowQ(r:List Num3):IV:=.sl (r.map fun x=>qr x.q)
noncomputable def qO(r:List Num3):IV:=.sl (r.map fun x=>rr x.q)
def jz(r:List Num3):Bool:=decide (r.length<=8)&&r.all Num3.tame
noncomputable def re(l:List (List Num3))(most:Int)(k:Nat):AS :=
 match k with
 |0=>aF [(0,.iv (.sl (l.map rowI))),(1,.iv (.int .i64 most)),(7,.nilS),(8,.nilS),(9,.iv (.int .i64 0))] [] 20
 |k+1=>aF [(0,.iv (.sl (l.map rowI))),(1,.iv (.int .i64 most)),(7,.ref 0 0 (k+1) true),(8,.ref 1 0 (k+1) true),(9,.iv (.int .i64 ((k+1:Nat):Int)))]
  [(0,.arr 28 1 ((l.take (k+1)).map rowQ) false),(1,.arr 32 1 ((l.take (k+1)).map qO) false)] 20
noncomputable def vN(l:List (List Num3))(most:Int):IV:=bif l.all jz then .tup [.sl (l.map rowQ),.sl (l.map qO),.bool (decide ((l.length:Int)<=most))] else .tup [.sl [],.sl [],.bool false]
theorem Vj(J:Keep){l:List (List Num3)}{most:Int}(hl:l.length*24<=reachBytes)(hr:∀r∈l,r.length<2^63/\∀x∈r,x.ok):C J 12 [.sl (l.map rowI),.int .i64 most] (vN l most):=by
 have hreach:reachBytes=140737488351232:=rfl;rw[hreach] at hl;refine aH Tryz.func12 rfl rfl rfl ?_;have la:(l.map rowI).length=l.length:=by simp
 repeat((first|refine W.R ?_|refine W.c ?_);conv=>whnf)
 refine W.loop (G:={ k:Nat // k<=l.length/\(l.take k).all jz=true }) (fun k=>re l most k.1) (fun k=>l.length-k.1) ⟨0,bk _,by simp⟩ (Wk.tab [] ⟨aa,aa,aa,aa,aa,ab⟩ trivial rfl) ?_;rintro⟨k,hk,hall⟩;by_cases hke:k<l.length
 . have g:(l.map rowI)[k]?=some (rowI l[k]):=by simp[hke]
   have tk:l.take (k+1)=l.take k ++ [l[k]]:=tR hke;obtain⟨r1,r2⟩:=hr l[k] (eM hke);have hbad:jz l[k]=false->vN l most=.tup [.sl [],.sl [],.bool false]:=fun h=>by
    have:l.all jz=false:=List.all_eq_false.2 ⟨l[k],eM hke,by simp[h]⟩;unfold vN;rw[this];rfl
   obtain⟨r,hrk⟩:∃r,l[k]=r:=⟨_,rfl⟩;rw[hrk] at g tk r1 r2 hbad;have g:(l.map rowI)[k]?=some (.sl (r.map Num3.iv)):=g;have lr:(r.map Num3.iv).length=r.length:=by simp
   by_cases h8:r.length<=8
   . have c1:=Dm J (l:=r) (by omega);cases ht:r.all Num3.tame with
     |false=>
      rw[ht] at c1;rw[hbad (by unfold jz;rw[ht];simp)];cases k with
      |zero=>
       unfold re;repeat((first|refine W.R ?_|refine W.c ?_|refine⟨_,c1,?_⟩|refine⟨0,_,rfl,g,rfl,?_⟩|refine xT (by omega) ?_|refine xF (by omega) ?_|refine⟨_,rfl,?_⟩|refine xr ?_|refine xA ?_);conv=>whnf)
       rfl
      |succ k=>
       unfold re;repeat((first|refine W.R ?_|refine W.c ?_|refine⟨_,c1,?_⟩|refine⟨k+1,_,rfl,g,rfl,?_⟩|refine xT (by omega) ?_|refine xF (by omega) ?_|refine⟨_,rfl,?_⟩|refine xr ?_|refine xA ?_);conv=>whnf)
       rfl
     |true=>
      rw[ht] at c1;have c2:=K3 J (l:=r) (by omega) r2;have hok:jz r=true:=by unfold jz;rw[ht,aZ h8];rfl
      cases k with
      |zero=>
       unfold re;repeat((first|refine W.R ?_|refine W.c ?_|refine⟨_,c1,?_⟩|refine⟨_,c2,?_⟩|refine⟨0,_,rfl,g,rfl,?_⟩|refine⟨jW ⟨rfl,rfl⟩,aG rfl,aG rfl,?_⟩|refine ap (by omega) ?_|refine xT (by omega) ?_|refine xF (by omega) ?_|refine⟨_,rfl,?_⟩|refine xr ?_|refine xA ?_);conv=>whnf)
       exact⟨⟨0+1,by omega,by rw[tk,pF,hall,cF,hok];rfl⟩,Wk.tab [(0,51),(1,55)] ⟨aa,aa,aa,aa,aa,ab⟩ ⟨gZ (by rw[tk];rfl),gZ (by rw[tk];rfl),ab⟩ rfl,by dsimp only;omega⟩
      |succ k=>
       have l1:k+1=((l.take (k+1)).map rowQ).length:=by simp;omega
       have l2:k+1=((l.take (k+1)).map qO).length:=by simp;omega
       unfold re;repeat (first|((first|refine W.R ?_|refine W.c ?_|refine⟨_,c1,?_⟩|refine⟨_,c2,?_⟩|refine⟨k+1,_,rfl,g,rfl,?_⟩);conv=>whnf)|(refine⟨gW rfl,rfl,rfl,l1,jW ⟨rfl,rfl⟩,by show(k+1+1)*24<=(140737488355328:Nat);omega,by show k+1+1<=maxLen;unfold maxLen;omega,?_⟩;conv=>whnf)|(refine⟨gW rfl,rfl,rfl,l2,jW ⟨rfl,rfl⟩,by show(k+1+1)*24<=(140737488355328:Nat);omega,by show k+1+1<=maxLen;unfold maxLen;omega,?_⟩;conv=>whnf)|((first|refine ap (by omega) ?_|refine xT (by omega) ?_|refine xF (by omega) ?_|refine⟨_,rfl,?_⟩|refine xr ?_|refine xA ?_);conv=>whnf))
       exact⟨⟨k+1+1,by omega,by rw[tk,pF,hall,cF,hok];rfl⟩,Wk.tab [(0,51),(1,55)] ⟨aa,aa,aa,aa,aa,ab⟩ ⟨gZ (by rw[tk,dE];rfl),gZ (by rw[tk,dE];rfl),ab⟩ rfl,by dsimp only;omega⟩
   . rw[hbad (by unfold jz;rw[bl h8];rfl)];cases k with
     |zero=>
      unfold re;repeat((first|refine W.R ?_|refine W.c ?_|refine⟨0,_,rfl,g,rfl,?_⟩|refine xT (by omega) ?_|refine⟨_,rfl,?_⟩|refine xr ?_|refine xB ?_);conv=>whnf)
      rfl
     |succ k=>
      unfold re;repeat((first|refine W.R ?_|refine W.c ?_|refine⟨k+1,_,rfl,g,rfl,?_⟩|refine xT (by omega) ?_|refine⟨_,rfl,?_⟩|refine xr ?_|refine xB ?_);conv=>whnf)
      rfl
 . have e:k=l.length:=by omega
   have hall':l.all jz=true:=by rw[e,dM] at hall;exact hall
   unfold vN;rw[hall',af];cases l with
   |nil=>
    subst e;by_cases hm:(0:Int)<=most
    . rw[aZ (show((([]:List (List Num3)).length:Nat):Int)<=most from hm)];show W J _ _ (aF [(0,.iv (.sl [])),(1,.iv (.int .i64 most)),(7,.nilS),(8,.nilS),(9,.iv (.int .i64 0))] [] 20) _;repeat((first|refine W.R ?_|refine W.c ?_|refine xT (by omega) ?_|refine⟨_,rfl,?_⟩|refine xr ?_);conv=>whnf)
      rfl
    . rw[bl (show ¬((([]:List (List Num3)).length:Nat):Int)<=most from hm)];show W J _ _ (aF [(0,.iv (.sl [])),(1,.iv (.int .i64 most)),(7,.nilS),(8,.nilS),(9,.iv (.int .i64 0))] [] 20) _;repeat((first|refine W.R ?_|refine W.c ?_|refine xF (by omega) ?_|refine⟨_,rfl,?_⟩|refine xr ?_);conv=>whnf)
      rfl
   |cons y l=>
    subst e;have e1:(y::l).take (l.length+1)=y::l:=aC (by simp);have la2:(l.map rowI).length=l.length:=by simp
    have la':((y::l).map rowI).length=l.length+1:=by simp
    have hlen:(((y::l).length:Nat):Int)=((l.length+1:Nat):Int):=rfl;rw[hlen];show W J _ _ (aF [(0,.iv (.sl ((y::l).map rowI))),(1,.iv (.int .i64 most)),(7,.ref 0 0 (l.length+1) true),(8,.ref 1 0 (l.length+1) true),(9,.iv (.int .i64 ((l.length+1:Nat):Int)))]
     [(0,.arr 28 1 (((y::l).take (l.length+1)).map rowQ) false),(1,.arr 32 1 (((y::l).take (l.length+1)).map qO) false)] 20) _
    rw[e1];by_cases hm:((l.length+1:Nat):Int)<=most
    . rw[aZ hm];repeat((first|refine W.R ?_|refine W.c ?_|refine⟨_,kr _,?_⟩|refine xT (by omega) ?_|refine xF (by omega) ?_|refine xr ?_);conv=>whnf)
      show IV.tup [.sl (List.take (l.length+1) (List.drop 0 ((y::l).map rowQ))),.sl (List.take (l.length+1) (List.drop 0 ((y::l).map qO))),_]=_;rw[bL,bL,aC (by simp),aC (by simp)]
    . rw[bl hm];repeat((first|refine W.R ?_|refine W.c ?_|refine⟨_,kr _,?_⟩|refine xF (by omega) ?_|refine xr ?_);conv=>whnf)
      show IV.tup [.sl (List.take (l.length+1) (List.drop 0 ((y::l).map rowQ))),.sl (List.take (l.length+1) (List.drop 0 ((y::l).map qO))),_]=_;rw[bL,bL,aC (by simp),aC (by simp)]
noncomputable def vV(x:Swm):IV:=.agg [.int .i64 x.n,.sl (x.at_.map rowQ),.sl (x.ws.map fun y=>qr y.q)]
noncomputable def Aw(x:Swm):IV:=.agg [.int .i64 x.n,.sl (x.at_.map qO),.sl (x.ws.map fun y=>rr y.q)]
def gA(x:Swm)(most:Nat):Bool:=x.at_.all jz&&(decide (x.at_.length<=most)&&(decide (x.ws.length<=most+2)&&x.ws.all Num3.tame))
noncomputable def zC:IV:=.agg [.int .i64 0,.sl [],.sl []]
theorem KM(J:Keep){x:Swm}{most:Nat}(hx:x.Ok)(hm:most<=100):C J 4 [x.iv,.int .i64 most] (.tup [bif gA x most then vV x else zC,bif gA x most then Aw x else zC,.bool (gA x most)]):=by
 have c1:=Vj J (most:=(most:Int)) hx.l hx.r;refine aH Tryz.func4 rfl rfl rfl ?_;have la:(x.ws.map Num3.iv).length=x.ws.length:=by simp
 unfold Swm.iv;unfold gA;unfold vN at c1;cases h1:x.at_.all jz with
 |false=>
  rw[h1,aX] at c1;simp only[Bool.false_and,aX];repeat((first|refine W.R ?_|refine W.c ?_|refine⟨_,c1,?_⟩|refine⟨_,rfl,?_⟩|refine xB ?_);conv=>whnf)
  rfl
 |true=>
  rw[h1,af] at c1;simp only[n3];by_cases h2:x.at_.length<=most
  . rw[aZ (show(x.at_.length:Int)<=most by omega)] at c1;rw[aZ h2];simp only[n3];by_cases h3:x.ws.length<=most+2
    . have c2:=Dm J (l:=x.ws) (by omega);rw[aZ h3];simp only[n3];cases h4:x.ws.all Num3.tame with
      |false=>
       rw[h4] at c2;repeat((first|refine W.R ?_|refine W.c ?_|refine⟨_,c1,?_⟩|refine⟨_,c2,?_⟩|refine ap (by omega) ?_|refine xF (by omega) ?_|refine⟨_,rfl,?_⟩|refine xr ?_|refine xA ?_);conv=>whnf)
       rfl
      |true=>
       rw[h4] at c2;have c3:=K3 J (l:=x.ws) (by omega) hx.w.2;repeat((first|refine W.R ?_|refine W.c ?_|refine⟨_,c1,?_⟩|refine⟨_,c2,?_⟩|refine⟨_,c3,?_⟩|refine ap (by omega) ?_|refine xF (by omega) ?_|refine⟨_,rfl,?_⟩|refine xr ?_|refine xA ?_);conv=>whnf)
       rfl
    . rw[bl h3];repeat((first|refine W.R ?_|refine W.c ?_|refine⟨_,c1,?_⟩|refine ap (by omega) ?_|refine xT (by omega) ?_|refine⟨_,rfl,?_⟩|refine xr ?_|refine xA ?_|refine xB ?_);conv=>whnf)
      rfl
  . rw[bl (show ¬(x.at_.length:Int)<=most by omega)] at c1;rw[bl h2];repeat((first|refine W.R ?_|refine W.c ?_|refine⟨_,c1,?_⟩|refine⟨_,rfl,?_⟩|refine xB ?_);conv=>whnf)
    rfl
theorem U5(J:Keep){n:Int}{f:List (List IV)}(hf:f.length<2^60)(hr:∀r∈f,r.length<2^60):C J 14 [.int .i64 n,.sl (f.map IV.sl)] (.bool (!f.any fun r=>!decide ((r.length:Int)=n))):=by
 refine aH Tryz.func14 rfl rfl rfl ?_;have la:(f.map IV.sl).length=f.length:=by simp
 repeat((first|refine W.R ?_|refine W.c ?_);conv=>whnf)
 refine W.loop (G:={ t:Nat // t<=f.length/\(f.take t).any (fun r=>!decide ((r.length:Int)=n))=false }) (fun t=>aF [(0,.iv (.int .i64 n)),(1,.iv (.sl (f.map IV.sl))),(5,.iv (.int .i64 (t.1:Int)))] [] 10) (fun t=>f.length-t.1) ⟨0,bk _,by simp⟩ (Wk.tab [] ⟨aa,aa,aa,ab⟩ trivial rfl) ?_;rintro⟨t,ht,hz⟩;show W J _ _ (aF [(0,.iv (.int .i64 n)),(1,.iv (.sl (f.map IV.sl))),(5,.iv (.int .i64 (t:Int)))] [] 10) _;by_cases h:t<f.length
 . obtain⟨r,hx⟩:∃r,f[t]?=some r:=⟨_,a6 h⟩;have g:(f.map IV.sl)[t]?=some (.sl r):=by rw[bQ,hx];rfl
   have hrl:=hr r (bV hx);by_cases h1:(r.length:Int)=n
   . repeat((first|refine W.R ?_|refine W.c ?_|refine⟨t,_,rfl,g,rfl,?_⟩|refine ap (by omega) ?_|refine xT (by omega) ?_|refine⟨false,bne_eq_false_iff_eq.2 (by omega),?_⟩|refine⟨_,rfl,?_⟩|refine xr ?_);conv=>whnf)
     exact⟨⟨t+1,h,by rw[gg,hx,List.any_append,hz];simp[h1]⟩,Wk.tab [] ⟨aa,aa,aa,ab⟩ trivial rfl,by dsimp only;omega⟩
   . rw[show f.any (fun r=>!decide ((r.length:Int)=n))=true from List.any_eq_true.2 ⟨r,bV hx,by simp[h1]⟩];repeat((first|refine W.R ?_|refine W.c ?_|refine⟨t,_,rfl,g,rfl,?_⟩|refine xT (by omega) ?_|refine⟨true,bne_iff_ne.2 (by omega),?_⟩|refine⟨_,rfl,?_⟩|refine xr ?_);conv=>whnf)
     rfl
 . have e:t=f.length:=by omega
   subst e;rw[dM] at hz;rw[hz];repeat((first|refine W.R ?_|refine W.c ?_|refine xF (by omega) ?_|refine⟨_,rfl,?_⟩|refine xr ?_);conv=>whnf)
   rfl
def qu(n:Int)(f:List (List IV))(w:List IV):Bool:=decide (1<=n)&&(decide (n<=4)&&(decide (f.length<=2000)&&(decide (w.length=f.length) && !f.any fun r=>!decide ((r.length:Int)=n))))
theorem U4(J:Keep){n:Int}{f:List (List IV)}{w:List IV}(hf:f.length<2^60)(hr:∀r∈f,r.length<2^60)(hw:w.length<2^60):C J 5 [.agg [.int .i64 n,.sl (f.map IV.sl),.sl w]] (.bool (qu n f w)):=by
 refine aH Tryz.func5 rfl rfl rfl ?_;have la:(f.map IV.sl).length=f.length:=by simp
 have c1:=U5 J (n:=n) hf hr;unfold qu;obtain⟨v,hv⟩:∃v,(f.any fun r=>!decide ((r.length:Int)=n))=v:=⟨_,rfl⟩;rw[hv] at c1 ⊢;by_cases h1:1<=n
 . rw[aZ h1];by_cases h2:n<=4
   . rw[aZ h2];by_cases h3:f.length<=2000
     . rw[aZ h3];by_cases h4:w.length=f.length
       . rw[aZ h4];repeat((first|refine W.RS ?_|refine W.ret ?_|refine⟨_,c1,?_⟩|refine xT (by omega) ?_|refine⟨_,rfl,?_⟩|refine xr ?_|refine xB ?_);conv=>whnf)
         rfl
       . rw[bl h4];repeat((first|refine W.RS ?_|refine W.ret ?_|refine xT (by omega) ?_|refine xF (by omega) ?_|refine⟨_,rfl,?_⟩|refine xr ?_|refine xA ?_|refine xB ?_);conv=>whnf)
         rfl
     . rw[bl h3];repeat((first|refine W.RS ?_|refine W.ret ?_|refine xT (by omega) ?_|refine xF (by omega) ?_|refine⟨_,rfl,?_⟩|refine xr ?_|refine xA ?_|refine xB ?_);conv=>whnf)
       rfl
   . rw[bl h2];repeat((first|refine W.RS ?_|refine W.ret ?_|refine xT (by omega) ?_|refine xF (by omega) ?_|refine xr ?_|refine xA ?_|refine xB ?_);conv=>whnf)
     rfl
 . rw[bl h1];repeat((first|refine W.RS ?_|refine W.ret ?_|refine xF (by omega) ?_|refine xr ?_|refine xA ?_);conv=>whnf)
   rfl
end Go.Proofs.Fl
