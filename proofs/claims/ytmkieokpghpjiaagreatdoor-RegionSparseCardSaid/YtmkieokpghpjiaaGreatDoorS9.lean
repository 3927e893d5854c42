/-
  The statement RegionSparse holds for every input.
-/
import Derived.Test.YtmkieokpghpjiaaGreatDoorS8
import Derived.Test.YtmkieokpghpjiaaGreatDoorTie
import Derived.Test.YtmkieokpghpjiaaGreatDoorCards
import Derived.ChangeSame
import Derived.ChangeVars
import Derived.JoinedOf
import Derived.RowKit
import Derived.RowKitTokens
import Derived.LaidLaws
import Derived.LaidMore
import Derived.LaidSub
import Derived.Stop.Joined
import Derived.Lib.LaidTab
import Derived.Lib.LaidU8
import Derived.Lib.SmallJoins
import Derived.Carry
import Derived.SevenTiedAt
import Derived.Deep.Slices
import Derived.SizedLaws
set_option maxHeartbeats 16000000
set_option maxRecDepth 100000
set_option linter.all false
namespace Go.Proofs
open Go
abbrev Ox:=@List.length_range
end Go.Proofs
namespace Go.Proofs.En
open Go.RowKit Go.Proofs.Fl Go.Proofs.Dig
attribute [local irreducible] IntKind.wrap aW bc bj bm SW c7 CallOk To
noncomputable def MT:Code:=match Tryz.f4.body with|some c=>sc (dM (c))|none=>.skip
def XW:runT se 100000 0 132 MT [] [] 0 [(0,24),(1,22),(2,21),(3,6),(4,13),(5,20)] [(1,.w (.one (.ptr 0 0 0)))] [(0,.mem 60 [.iv (.int .i64 2),.iv (.nil 3),.slc 1 0 0 1 (.ex 1)] false [(0,3)] 1),(1,.mem 26 [.slc 2 0 0 3 (.ex 3)] false [(0,1)] 1),(2,.mem 27 [.slc 3 0 0 2 (.ex 2),.slc 4 0 0 2 (.ex 2),.slc 5 0 0 2 (.ex 2)] false [(0,3)] 1),(3,.mem 55 [.qc 0 1 0,.qc 0 1 1,.qc 0 1 2,.qc 0 1 0,.qc 0 1 1,.qc 0 1 2] false [(0,6)] 1),(4,.mem 55 [.qc 1 1 0,.qc 1 1 1,.qc 1 1 2,.qc 0 1 0,.qc 0 1 1,.qc 0 1 2] false [(0,6)] 1),(5,.mem 55 [.qc 0 1 0,.qc 0 1 1,.qc 0 1 2,.qc 1 1 0,.qc 1 1 1,.qc 1 1 2] false [(0,6)] 1)] 6=true:=by kernel_rfl
noncomputable def MS:Code:=match Tryz.f4.body with|some c=>sc (dM (dM (c)))|none=>.skip
def XV:runT se 100000 0 132 MS [(1,.w (.one (.ptr 0 0 0)))] [(0,.mem 60 [.iv (.int .i64 2),.iv (.nil 3),.slc 1 0 0 1 (.ex 1)] false [(0,3)] 1),(1,.mem 26 [.slc 2 0 0 3 (.ex 3)] false [(0,1)] 1),(2,.mem 27 [.slc 3 0 0 2 (.ex 2),.slc 4 0 0 2 (.ex 2),.slc 5 0 0 2 (.ex 2)] false [(0,3)] 1),(3,.mem 55 [.qc 0 1 0,.qc 0 1 1,.qc 0 1 2,.qc 0 1 0,.qc 0 1 1,.qc 0 1 2] false [(0,6)] 1),(4,.mem 55 [.qc 1 1 0,.qc 1 1 1,.qc 1 1 2,.qc 0 1 0,.qc 0 1 1,.qc 0 1 2] false [(0,6)] 1),(5,.mem 55 [.qc 0 1 0,.qc 0 1 1,.qc 0 1 2,.qc 1 1 0,.qc 1 1 1,.qc 1 1 2] false [(0,6)] 1)] 6 [(0,15)] [(2,.w (.one (.ptr 0 0 0))),(3,.w (.one (.iv (.int .i64 0))))] [(0,.mem 55 [.qc 1 12 0,.qc 1 12 1,.qc 1 12 2] false [(0,3)] 1)] 1=true:=by kernel_rfl
noncomputable def MQ:Code:=match Tryz.f4.body with|some c=>sc (dM (dM (dM (c))))|none=>.skip
def XU:runT se 100000 0 132 MQ [(2,.w (.one (.ptr 0 0 0))),(3,.w (.one (.iv (.int .i64 0))))] [(0,.mem 55 [.qc 1 12 0,.qc 1 12 1,.qc 1 12 2] false [(0,3)] 1)] 1 [(0,0),(1,4)] [(2,.w (.one (.ptr 0 0 0))),(3,.w (.one (.iv (.int .i64 0)))),(4,.w (.one (.ptr 1 0 0)))] [(0,.mem 55 [.qc 1 12 0,.qc 1 12 1,.qc 1 12 2] false [(0,3)] 1),(1,.mem 55 [.qc 1 2 0,.qc 1 2 1,.qc 1 2 2] false [(0,3)] 1)] 2=true:=by kernel_rfl
noncomputable def MP:Code:=match Tryz.f4.body with|some c=>sc (dM (dM (dM (dM (c)))))|none=>.skip
def XT:runT se 100000 0 132 MP [(2,.w (.one (.ptr 0 0 0))),(3,.w (.one (.iv (.int .i64 0)))),(4,.w (.one (.ptr 1 0 0)))] [(0,.mem 55 [.qc 1 12 0,.qc 1 12 1,.qc 1 12 2] false [(0,3)] 1),(1,.mem 55 [.qc 1 2 0,.qc 1 2 1,.qc 1 2 2] false [(0,3)] 1)] 2 [(0,0),(1,15),(2,7033),(3,7039),(4,7049),(5,7080),(6,7111)] [(2,.w (.one (.ptr 0 0 0))),(3,.w (.one (.iv (.int .i64 0)))),(6,.w (.one (.ptr 1 0 0))),(8,.w (.one (.iv (.int .i64 0))))] [(0,.mem 55 [.qc 1 12 0,.qc 1 12 1,.qc 1 12 2] false [(0,3)] 1),(1,.mem 29 [.iv (.int .i64 1),.slc 2 2 0 3 (.fin 1),.slc 3 2 0 3 (.fin 3)] false [(0,3)] 1),(2,.mem 27 [.slc 4 0 0 1 (.fin 3),.slc 5 0 0 1 (.fin 3),.slc 6 0 0 1 (.fin 3)] false [(2,3),(1,2),(0,1)] 3),(3,.mem 55 [.qc 1 6 0,.qc 1 6 1,.qc 1 6 2,.qc 2 3 0,.qc 2 3 1,.qc 2 3 2,.qc 1 6 0,.qc 1 6 1,.qc 1 6 2] false [(2,9),(1,6),(0,3)] 3),(4,.mem 55 [.qc 0 1 0,.qc 0 1 1,.qc 0 1 2] false [(0,3)] 1),(5,.mem 55 [.qc 1 2 0,.qc 1 2 1,.qc 1 2 2] false [(0,3)] 1),(6,.mem 55 [.qc 1 1 0,.qc 1 1 1,.qc 1 1 2] false [(0,3)] 1)] 7=true:=by kernel_rfl
noncomputable def MO:Code:=match Tryz.f4.body with|some c=>sc (dM (dM (dM (dM (dM (c))))))|none=>.skip
def XR:runT se 100000 0 132 MO [(2,.w (.one (.ptr 0 0 0))),(3,.w (.one (.iv (.int .i64 0)))),(6,.w (.one (.ptr 1 0 0))),(8,.w (.one (.iv (.int .i64 0))))] [(0,.mem 55 [.qc 1 12 0,.qc 1 12 1,.qc 1 12 2] false [(0,3)] 1),(1,.mem 29 [.iv (.int .i64 1),.slc 2 2 0 3 (.fin 1),.slc 3 2 0 3 (.fin 3)] false [(0,3)] 1),(2,.mem 27 [.slc 4 0 0 1 (.fin 3),.slc 5 0 0 1 (.fin 3),.slc 6 0 0 1 (.fin 3)] false [(2,3),(1,2),(0,1)] 3),(3,.mem 55 [.qc 1 6 0,.qc 1 6 1,.qc 1 6 2,.qc 2 3 0,.qc 2 3 1,.qc 2 3 2,.qc 1 6 0,.qc 1 6 1,.qc 1 6 2] false [(2,9),(1,6),(0,3)] 3),(4,.mem 55 [.qc 0 1 0,.qc 0 1 1,.qc 0 1 2] false [(0,3)] 1),(5,.mem 55 [.qc 1 2 0,.qc 1 2 1,.qc 1 2 2] false [(0,3)] 1),(6,.mem 55 [.qc 1 1 0,.qc 1 1 1,.qc 1 1 2] false [(0,3)] 1)] 7 [(0,0),(1,1),(2,4268),(3,2),(4,3),(5,4474),(6,4496),(7,4),(8,5),(9,6)] [(2,.w (.one (.ptr 0 0 0))),(3,.w (.one (.iv (.int .i64 0)))),(6,.w (.one (.ptr 1 0 0))),(8,.w (.one (.iv (.int .i64 0)))),(10,.w (.one (.slc 2 2 0 2 (.fin 4)))),(11,.w (.one (.iv (.int .i64 14))))] [(0,.mem 55 [.qc 1 12 0,.qc 1 12 1,.qc 1 12 2] false [(0,3)] 1),(1,.mem 29 [.iv (.int .i64 1),.slc 3 2 0 3 (.fin 1),.slc 4 2 0 3 (.fin 3)] false [(0,3)] 1),(2,.mem 65 [.slc 5 0 0 1 (.fin 1),.qc (-1) 1 0,.qc (-1) 1 1,.qc (-1) 1 2,.slc 6 0 0 1 (.fin 1),.qc 1 1 0,.qc 1 1 1,.qc 1 1 2,.iv (.nil 3),.qc 0 1 0,.qc 0 1 1,.qc 0 1 2] false [(2,12),(1,0),(0,0)] 3),(3,.mem 27 [.slc 7 0 0 1 (.fin 3),.slc 8 0 0 1 (.fin 3),.slc 9 0 0 1 (.fin 3)] false [(2,3),(1,2),(0,1)] 3),(4,.mem 55 [.qc 1 6 0,.qc 1 6 1,.qc 1 6 2,.qc 2 3 0,.qc 2 3 1,.qc 2 3 2,.qc 1 6 0,.qc 1 6 1,.qc 1 6 2] false [(2,9),(1,6),(0,3)] 3),(5,.mem 3 [.iv (.int .i64 1)] false [(0,1)] 1),(6,.mem 3 [.iv (.int .i64 2)] false [(0,1)] 1),(7,.mem 55 [.qc 0 1 0,.qc 0 1 1,.qc 0 1 2] false [(0,3)] 1),(8,.mem 55 [.qc 1 2 0,.qc 1 2 1,.qc 1 2 2] false [(0,3)] 1),(9,.mem 55 [.qc 1 1 0,.qc 1 1 1,.qc 1 1 2] false [(0,3)] 1)] 10=true:=by kernel_rfl
noncomputable def MN:Code:=match Tryz.f4.body with|some c=>sc (dM (dM (dM (dM (dM (dM (c)))))))|none=>.skip
def XQ:runT se 100000 0 132 MN [(2,.w (.one (.ptr 0 0 0))),(3,.w (.one (.iv (.int .i64 0)))),(6,.w (.one (.ptr 1 0 0))),(8,.w (.one (.iv (.int .i64 0)))),(10,.w (.one (.slc 2 2 0 2 (.fin 4)))),(11,.w (.one (.iv (.int .i64 14))))] [(0,.mem 55 [.qc 1 12 0,.qc 1 12 1,.qc 1 12 2] false [(0,3)] 1),(1,.mem 29 [.iv (.int .i64 1),.slc 3 2 0 3 (.fin 1),.slc 4 2 0 3 (.fin 3)] false [(0,3)] 1),(2,.mem 65 [.slc 5 0 0 1 (.fin 1),.qc (-1) 1 0,.qc (-1) 1 1,.qc (-1) 1 2,.slc 6 0 0 1 (.fin 1),.qc 1 1 0,.qc 1 1 1,.qc 1 1 2,.iv (.nil 3),.qc 0 1 0,.qc 0 1 1,.qc 0 1 2] false [(2,12),(1,0),(0,0)] 3),(3,.mem 27 [.slc 7 0 0 1 (.fin 3),.slc 8 0 0 1 (.fin 3),.slc 9 0 0 1 (.fin 3)] false [(2,3),(1,2),(0,1)] 3),(4,.mem 55 [.qc 1 6 0,.qc 1 6 1,.qc 1 6 2,.qc 2 3 0,.qc 2 3 1,.qc 2 3 2,.qc 1 6 0,.qc 1 6 1,.qc 1 6 2] false [(2,9),(1,6),(0,3)] 3),(5,.mem 3 [.iv (.int .i64 1)] false [(0,1)] 1),(6,.mem 3 [.iv (.int .i64 2)] false [(0,1)] 1),(7,.mem 55 [.qc 0 1 0,.qc 0 1 1,.qc 0 1 2] false [(0,3)] 1),(8,.mem 55 [.qc 1 2 0,.qc 1 2 1,.qc 1 2 2] false [(0,3)] 1),(9,.mem 55 [.qc 1 1 0,.qc 1 1 1,.qc 1 1 2] false [(0,3)] 1)] 10 [(0,0),(1,1),(2,2),(3,5184),(4,3),(5,4),(6,5),(7,6),(8,4597),(9,7),(10,8),(11,9),(12,4552),(13,5023),(14,5130),(15,4549),(16,4567),(17,4585),(18,5020),(19,5038),(20,5056),(21,5127),(22,5145),(23,5163)] [(2,.w (.one (.ptr 0 0 0))),(3,.w (.one (.iv (.int .i64 0)))),(6,.w (.one (.ptr 1 0 0))),(8,.w (.one (.iv (.int .i64 0)))),(10,.w (.one (.slc 2 2 0 2 (.fin 4)))),(11,.w (.one (.iv (.int .i64 14)))),(12,.w (.one (.ptr 3 0 0))),(13,.w (.one (.iv (.int .i64 0))))] [(0,.mem 55 [.qc 1 12 0,.qc 1 12 1,.qc 1 12 2] false [(0,3)] 1),(1,.mem 29 [.iv (.int .i64 1),.slc 4 2 0 3 (.fin 1),.slc 5 2 0 3 (.fin 3)] false [(0,3)] 1),(2,.mem 65 [.slc 6 0 0 1 (.fin 1),.qc (-1) 1 0,.qc (-1) 1 1,.qc (-1) 1 2,.slc 7 0 0 1 (.fin 1),.qc 1 1 0,.qc 1 1 1,.qc 1 1 2,.iv (.nil 3),.qc 0 1 0,.qc 0 1 1,.qc 0 1 2] false [(2,12),(1,0),(0,0)] 3),(3,.mem 60 [.iv (.int .i64 2),.iv (.nil 3),.slc 8 2 0 3 (.fin 1)] false [(0,3)] 1),(4,.mem 27 [.slc 9 0 0 1 (.fin 3),.slc 10 0 0 1 (.fin 3),.slc 11 0 0 1 (.fin 3)] false [(2,3),(1,2),(0,1)] 3),(5,.mem 55 [.qc 1 6 0,.qc 1 6 1,.qc 1 6 2,.qc 2 3 0,.qc 2 3 1,.qc 2 3 2,.qc 1 6 0,.qc 1 6 1,.qc 1 6 2] false [(2,9),(1,6),(0,3)] 3),(6,.mem 3 [.iv (.int .i64 1)] false [(0,1)] 1),(7,.mem 3 [.iv (.int .i64 2)] false [(0,1)] 1),(8,.mem 26 [.slc 12 2 0 3 (.fin 1),.slc 13 2 0 3 (.fin 1),.slc 14 2 0 3 (.fin 1)] false [(2,3),(1,2),(0,1)] 3),(9,.mem 55 [.qc 0 1 0,.qc 0 1 1,.qc 0 1 2] false [(0,3)] 1),(10,.mem 55 [.qc 1 2 0,.qc 1 2 1,.qc 1 2 2] false [(0,3)] 1),(11,.mem 55 [.qc 1 1 0,.qc 1 1 1,.qc 1 1 2] false [(0,3)] 1),(12,.mem 27 [.slc 15 0 0 2 (.fin 3),.slc 16 0 0 2 (.fin 3),.slc 17 0 0 2 (.fin 3)] false [(2,3),(1,2),(0,1)] 3),(13,.mem 27 [.slc 18 0 0 2 (.fin 3),.slc 19 0 0 2 (.fin 3),.slc 20 0 0 2 (.fin 3)] false [(2,3),(1,2),(0,1)] 3),(14,.mem 27 [.slc 21 0 0 2 (.fin 3),.slc 22 0 0 2 (.fin 3),.slc 23 0 0 2 (.fin 3)] false [(2,3),(1,2),(0,1)] 3),(15,.mem 55 [.qc 0 1 0,.qc 0 1 1,.qc 0 1 2,.qc 0 1 0,.qc 0 1 1,.qc 0 1 2] false [(0,6)] 1),(16,.mem 55 [.qc 2 1 0,.qc 2 1 1,.qc 2 1 2,.qc 0 1 0,.qc 0 1 1,.qc 0 1 2] false [(0,6)] 1),(17,.mem 55 [.qc 1 1 0,.qc 1 1 1,.qc 1 1 2,.qc 1 1 0,.qc 1 1 1,.qc 1 1 2] false [(0,6)] 1),(18,.mem 55 [.qc 0 1 0,.qc 0 1 1,.qc 0 1 2,.qc 2 1 0,.qc 2 1 1,.qc 2 1 2] false [(0,6)] 1),(19,.mem 55 [.qc 0 1 0,.qc 0 1 1,.qc 0 1 2,.qc 0 1 0,.qc 0 1 1,.qc 0 1 2] false [(0,6)] 1),(20,.mem 55 [.qc 1 1 0,.qc 1 1 1,.qc 1 1 2,.qc 1 1 0,.qc 1 1 1,.qc 1 1 2] false [(0,6)] 1),(21,.mem 55 [.qc 1 1 0,.qc 1 1 1,.qc 1 1 2,.qc 1 1 0,.qc 1 1 1,.qc 1 1 2] false [(0,6)] 1),(22,.mem 55 [.qc 2 1 0,.qc 2 1 1,.qc 2 1 2,.qc 2 1 0,.qc 2 1 1,.qc 2 1 2] false [(0,6)] 1),(23,.mem 55 [.qc 0 1 0,.qc 0 1 1,.qc 0 1 2,.qc 2 1 0,.qc 2 1 1,.qc 2 1 2] false [(0,6)] 1)] 24=true:=by kernel_rfl
noncomputable def MM:Code:=match Tryz.f4.body with|some c=>sc (dM (dM (dM (dM (dM (dM (dM (c))))))))|none=>.skip
def XP:runT se 100000 0 132 MM [(2,.w (.one (.ptr 0 0 0))),(3,.w (.one (.iv (.int .i64 0)))),(6,.w (.one (.ptr 1 0 0))),(8,.w (.one (.iv (.int .i64 0)))),(10,.w (.one (.slc 2 2 0 2 (.fin 4)))),(11,.w (.one (.iv (.int .i64 14)))),(12,.w (.one (.ptr 3 0 0))),(13,.w (.one (.iv (.int .i64 0))))] [(0,.mem 55 [.qc 1 12 0,.qc 1 12 1,.qc 1 12 2] false [(0,3)] 1),(1,.mem 29 [.iv (.int .i64 1),.slc 4 2 0 3 (.fin 1),.slc 5 2 0 3 (.fin 3)] false [(0,3)] 1),(2,.mem 65 [.slc 6 0 0 1 (.fin 1),.qc (-1) 1 0,.qc (-1) 1 1,.qc (-1) 1 2,.slc 7 0 0 1 (.fin 1),.qc 1 1 0,.qc 1 1 1,.qc 1 1 2,.iv (.nil 3),.qc 0 1 0,.qc 0 1 1,.qc 0 1 2] false [(2,12),(1,0),(0,0)] 3),(3,.mem 60 [.iv (.int .i64 2),.iv (.nil 3),.slc 8 2 0 3 (.fin 1)] false [(0,3)] 1),(4,.mem 27 [.slc 9 0 0 1 (.fin 3),.slc 10 0 0 1 (.fin 3),.slc 11 0 0 1 (.fin 3)] false [(2,3),(1,2),(0,1)] 3),(5,.mem 55 [.qc 1 6 0,.qc 1 6 1,.qc 1 6 2,.qc 2 3 0,.qc 2 3 1,.qc 2 3 2,.qc 1 6 0,.qc 1 6 1,.qc 1 6 2] false [(2,9),(1,6),(0,3)] 3),(6,.mem 3 [.iv (.int .i64 1)] false [(0,1)] 1),(7,.mem 3 [.iv (.int .i64 2)] false [(0,1)] 1),(8,.mem 26 [.slc 12 2 0 3 (.fin 1),.slc 13 2 0 3 (.fin 1),.slc 14 2 0 3 (.fin 1)] false [(2,3),(1,2),(0,1)] 3),(9,.mem 55 [.qc 0 1 0,.qc 0 1 1,.qc 0 1 2] false [(0,3)] 1),(10,.mem 55 [.qc 1 2 0,.qc 1 2 1,.qc 1 2 2] false [(0,3)] 1),(11,.mem 55 [.qc 1 1 0,.qc 1 1 1,.qc 1 1 2] false [(0,3)] 1),(12,.mem 27 [.slc 15 0 0 2 (.fin 3),.slc 16 0 0 2 (.fin 3),.slc 17 0 0 2 (.fin 3)] false [(2,3),(1,2),(0,1)] 3),(13,.mem 27 [.slc 18 0 0 2 (.fin 3),.slc 19 0 0 2 (.fin 3),.slc 20 0 0 2 (.fin 3)] false [(2,3),(1,2),(0,1)] 3),(14,.mem 27 [.slc 21 0 0 2 (.fin 3),.slc 22 0 0 2 (.fin 3),.slc 23 0 0 2 (.fin 3)] false [(2,3),(1,2),(0,1)] 3),(15,.mem 55 [.qc 0 1 0,.qc 0 1 1,.qc 0 1 2,.qc 0 1 0,.qc 0 1 1,.qc 0 1 2] false [(0,6)] 1),(16,.mem 55 [.qc 2 1 0,.qc 2 1 1,.qc 2 1 2,.qc 0 1 0,.qc 0 1 1,.qc 0 1 2] false [(0,6)] 1),(17,.mem 55 [.qc 1 1 0,.qc 1 1 1,.qc 1 1 2,.qc 1 1 0,.qc 1 1 1,.qc 1 1 2] false [(0,6)] 1),(18,.mem 55 [.qc 0 1 0,.qc 0 1 1,.qc 0 1 2,.qc 2 1 0,.qc 2 1 1,.qc 2 1 2] false [(0,6)] 1),(19,.mem 55 [.qc 0 1 0,.qc 0 1 1,.qc 0 1 2,.qc 0 1 0,.qc 0 1 1,.qc 0 1 2] false [(0,6)] 1),(20,.mem 55 [.qc 1 1 0,.qc 1 1 1,.qc 1 1 2,.qc 1 1 0,.qc 1 1 1,.qc 1 1 2] false [(0,6)] 1),(21,.mem 55 [.qc 1 1 0,.qc 1 1 1,.qc 1 1 2,.qc 1 1 0,.qc 1 1 1,.qc 1 1 2] false [(0,6)] 1),(22,.mem 55 [.qc 2 1 0,.qc 2 1 1,.qc 2 1 2,.qc 2 1 0,.qc 2 1 1,.qc 2 1 2] false [(0,6)] 1),(23,.mem 55 [.qc 0 1 0,.qc 0 1 1,.qc 0 1 2,.qc 2 1 0,.qc 2 1 1,.qc 2 1 2] false [(0,6)] 1)] 24 [] [(0,.w (.one (.iv (.bool true))))] [] 0=true:=by kernel_rfl
def Ry{J:Keep}(L:LibI J):C J 4 [] (.bool true):=by
 refine EG (X:=XE J) J.bel (xs:=[]) Tryz.func4 rfl rfl rfl rfl 0 ?_;refine SW.RS ?_;conv=>whnf
 refine SW.to (s':=aR [] [] 0) (To.tab [] trivial trivial rfl) ?_;refine qT (x:=MT) (pq) (rh L) XW ?_;refine qT (x:=MS) (pq) (rh L) XV ?_;refine qT (x:=MQ) (pq) (rh L) XU ?_;refine qT (x:=MP) (pq) (rh L) XT ?_;refine qT (x:=MO) (pq) (rh L) XR ?_;refine qT (x:=MN) (pq) (rh L) XQ ?_;refine qT (x:=MM) (pq) (rh L) XP ?_;refine SW.ret ?_;rfl
end Go.Proofs.En
namespace Go.Proofs.Fl
open Go.RowKit Go.Proofs.Dig
attribute [local irreducible] IntKind.wrap aW bc bj bm
open Go.Proofs.Reg (Hb)
def J3{x:Num3}(h:x.tame=true):Hb 14 x.q:=by
 unfold Num3.tame at h;simp only[gz,Om,decide_eq_false_iff_not,Decidable.not_not] at h;obtain⟨⟨⟨⟨h1,h2⟩,h3⟩,h4⟩,h5⟩:=h;show Hb 14 (pH x.n x.d^(x.p%4+1));rw[h1,CC];unfold pH;obtain⟨D,hD⟩:∃D:Int,(if x.d=0 then 1 else x.d:Int)=D:=⟨_,rfl⟩;have hD0:D≠0/\D<=9999/\ -9999<=D:=by rw[<-hD];split<;>omega
 rw[hD,<-En.LO];refine Hb.mk (by omega) ?_ (by omega);have:(En.rJ D x.n).natAbs=x.n.natAbs:=by
  unfold En.rJ;split<;>omega
 omega
end Go.Proofs.Fl
namespace Go.Proofs.Fl
open Go.RowKit Go.ChangeShapes Go.WideShapes
attribute [local irreducible] IntKind.wrap aW bc bj bm
def RA{P:Program}{n:String}{g:Nat}{k:IntKind}{zs:List Int}{w w':World}(hg:P.globalNamed n=some g)(h:Lib.TabIs P w n k zs)(hb:Below w.heap.size w w'):Lib.TabIs P w' n k zs:=by
 unfold Lib.TabIs World.var? at h ⊢;rw[hg] at h ⊢;simp only[NX] at h ⊢;have hlt:g<w.heap.size:=by
  rcases gb g w.heap.size with h'|h'
  . exact h'
  rw[uO h'] at h;cases h
 rw[hb.block g hlt];exact h
def Nf:Tryz.prog.globalNamed "internal/strconv.uint64pow10" = some ((Tryz.prog.globalNamed "internal/strconv.uint64pow10").getD 0):=by kernel_rfl
def Qg{n m:Nat}{w w':World}(h:Below n w w')(hm:m<=n):Below m w w':=⟨h.os,h.tape,h.output,h.size,fun k hk=>h.block k (by omega)⟩
def E7:Keep where
 I w:=Lib.TabIs Tryz.prog w "internal/strconv.uint64pow10" .u64 Lib.pow10Tab
 bel n w w' h hn hb:=RA Nf h (Qg hb hn)
 ro:=fun r=>r=none
 r0:=rfl
def XD:LibI E7:=⟨fun _ h=>h⟩
def Qh{W W':World}(h:Below W.heap.size W W')(may:MemPlace->Prop):W.keptBut W' may:=by
 refine⟨h.os,h.output,fun i hi=>?_⟩;rw[h.block i hi];cases W.heap[i]? with
 |none=>rfl
 |some o=>cases o<;>first|rfl|exact⟨rfl,rfl,rfl,fun _ _=>rfl⟩|exact .inr ⟨rfl,rfl⟩
def Gy{H:Type}{enc:TypeId×Value->H}{P:Program}(hl:laidOutB P=true){W W':World}(hb:Below W.heap.size W W'):∀{ts:List TypeId} {vs:List Value} {ds:List (DataW H)} {ps:List MemPlace},
 ts.all (fun t=>P.readableRec t&&decide (t<P.types.size))=true->DataW.TrodAll enc P W 0 (fun _=>true) true ts vs ds ps->(∀x∈ps,x.block<W.heap.size)->DataW.TrodAll enc P W' 0 (fun b=>decide (b<W.heap.size)) true ts vs ds ps
 | [],_,_,_,_,h,_=>by
  obtain⟨rfl,rfl,rfl⟩:=trodAll_nil h;exact h
 |t::ts,_,_,_,hr,h,hlt=>by
  obtain⟨v,vs1,d,ds1,a,b,rfl,rfl,rfl,h1,h2⟩:=trodAll_cons h;simp only[dl,aH,ff] at hr;exact⟨a,b,Below.trod hl hr.1.1 hr.1.2 h1 hb (fun x hx=>hlt x (by simp[hx])),Gy hl hb (by simpa using hr.2) h2 (fun x hx=>hlt x (by simp[hx])),rfl⟩
def Uy:laidOutB Tryz.prog=true:=by kernel_rfl
def XA:ownKnob Tryz.prog.godebug=none:=by kernel_rfl
def P4{f:FuncId}{fn:Func}{s:ChangeSpec}{laid:List (String×DataW Unit)}{os:Os}(started:os.Started){H:Type}{enc:TypeId×Value->H}
 (hfn:Tryz.prog.funcs[f]?=some fn) (noInit:Tryz.prog.inits.idxOf? f=none) (hv:s.vars=[]) (hr:fn.resultTypes = #[4])
 (hs:∀ds:List (DataW H),ds.length=fn.params.toList.length->s.fn H ds = { results:=[.lit (.bool true)],args:=ds })
 (hread:fn.params.toList.all (fun t=>Tryz.prog.readableRec t&&decide (t<Tryz.prog.types.size))=true)
 (hlaid:∀W,laidMetH Tryz.prog laid W->Lib.TabIs Tryz.prog W "internal/strconv.uint64pow10" .u64 Lib.pow10Tab)
 (witness:∃(w:World) (tape:Tape) (i:Input),w.os=os/\(w.forCall tape i).Shaped Tryz.prog/\i.vars=[]/\Input.okWide Tryz.prog (w.forCall tape i) .any w.heap.size f i/\
   ((s.pre enc Tryz.prog fn [] false (w.forCall tape i).memory i.args/\laidMetH Tryz.prog laid (w.forCall tape i).memory)/\sizedMet enc Tryz.prog fn (OpenSpec.ofChange s) false (w.forCall tape i).memory i.args)/\({}:Assume).holds Tryz.prog (lone (Frame.enter Tryz.prog f i.args .normal) [] (w.forCall tape i)))
 (hlaw:∀(W:World) (base:Nat) (args:Array Value) (ds:List (DataW H)) (p:List MemPlace),(∀(j:Nat) t v,fn.params[j]?=some t->args[j]?=some v->Value.okWide Tryz.prog W .any base t v)->
   DataW.TrodAll enc Tryz.prog W 0 (fun _=>true) true fn.params.toList args.toList ds p->(∃us,(DataW.weightsEach Tryz.prog (fn.params.toList++us) ds).all (· <= reachBytes)=true)->∃(Hp:ak) (xs:List IV),HeapHas W Hp/\VRL Hp args.toList xs/\C E7 f xs (.bool true)) :
 ReturnsInHanded {} Tryz.checked os f .any (fun w args=>(s.pre enc Tryz.prog fn [] false w args/\laidMetH Tryz.prog laid w)/\sizedMet enc Tryz.prog fn (OpenSpec.ofChange s) false w args) (s.post enc Tryz.prog fn false true false false):=by
 refine returnsInHanded_of_calls (C:=Tryz.checked) XA started noInit witness ?_;intro w tape i _ hsh _ hok hpre _;obtain⟨_,_,_,fn',hfn',_,_,_,_,hval⟩:=hok;obtain rfl:fn'=fn:=Ba (hfn'.symm.trans hfn);obtain⟨⟨⟨ds,gs,before,hw,hc⟩,hx⟩,hz⟩:=hpre;have hw':=DataW.Whole.of_heap (w':=w.forCall tape i) (by rfl) hw;have hx':laidMetH Tryz.prog laid (w.forCall tape i):=hx.of_heap (by rfl);obtain⟨W,hW⟩:∃W,w.forCall tape i=W:=⟨_,rfl⟩;rw[hW] at hsh hval hw' hx' ⊢;have hlt:=hw'.lt;have hw2:=hw';obtain⟨p,q,hA,hV,rfl,_,_⟩:=hw2;rw[hv] at hV;obtain⟨rfl,rfl⟩:gs=[]/\q=[]:=by
  cases gs with
  |nil=>exact⟨rfl,hV⟩
  |cons g r=>exact absurd hV (by intro h;cases h)
 obtain⟨Hp,xs,hH,hargs,hC⟩:=hlaw W w.heap.size i.args ds p hval hA ⟨_,by have:=hz.weights hw;rw[eS] at this;exact this⟩;have hI:E7.I W:=hlaid W hx';unfold C aW at hC;have hcall:=hC.2 Hp W i.args.toList hI hH hargs;have ha:i.args.toList.toArray=i.args:=rfl;rw[ha] at hcall;refine hcall.mono ?_;rintro e W' ⟨v,H',rfl,_,_,hvr,hb⟩;cases hvr;have hlen:ds.length=fn'.params.toList.length:=by
  have:∀{ts:List TypeId} {vs:List Value} {ds:List (DataW H)} {ps:List MemPlace},DataW.TrodAll enc Tryz.prog W 0 (fun _=>true) true ts vs ds ps->ds.length=ts.length:=by
   intro ts;induction ts with
   |nil=>intro vs ds ps h;obtain⟨rfl,rfl,rfl⟩:=trodAll_nil h;rfl
   |cons t ts ih=>
    intro vs ds ps h;obtain⟨v,vs1,d,ds1,a,b,rfl,rfl,rfl,h1,h2⟩:=trodAll_cons h;simp[ih h2]
  exact this hA
 have e1:s.fn H (ds ++ []) = { results:=[.lit (.bool true)],args:=ds }:=by rw[eS];exact hs ds hlen
 refine ChangeSpec.post_blind ?_;refine⟨ds,[],p ++ [],[],p,[],hw',?_,?_,?_,Qh hb _,fun h=>by cases h⟩
 . rw[e1,hr];exact trodAll_mk1 (shut_bool Tryz.underlying4 true)
 . rw[e1];exact Gy Uy hb hread hA (fun x hx=>hlt x (by simp[hx]))
 rw[e1,hv];rfl
end Go.Proofs.Fl
namespace Go.Proofs.Fl
open Go.RowKit Go.ChangeShapes Go.WideShapes Go.Deep
attribute [local irreducible] IntKind.wrap aW bc bj bm
set_option maxRecDepth 100000
def WV{n:Int}(h:(Lit.int .u8 n).wf=true):∃p:Nat,n=(p:Int)/\p<256:=by
 simp only[Lit.wf,aH,ff] at h;have e1:IntKind.u8.min=0:=rfl;have e2:IntKind.u8.max=255:=rfl;rw[e1,e2] at h;exact⟨n.toNat,by omega,by omega⟩
section
variable {H:Type}{enc:TypeId × Value->H}{w:World}{base:Nat}{spare:Nat->Bool}{held:Bool}
end
noncomputable def MU(os:Os):World:=World.doorLaid Tryz.prog 65 os
def Si:laidOutB YtmkieokpghpjiaaGreatDoor.Tryz.pinned.checked.prog=true:=by kernel_rfl
def VB:mapsRowed YtmkieokpghpjiaaGreatDoor.Tryz.pinned.checked.prog=true:=by kernel_rfl
set_option maxRecDepth 100000
def zn{n:Int}(h:(Lit.int .i64 n).wf=true) : -9223372036854775808<=n/\n<=9223372036854775807:=by
 simp only[Lit.wf,aH,ff] at h;have e1:IntKind.i64.min = -9223372036854775808:=rfl;have e2:IntKind.i64.max=9223372036854775807:=rfl;rw[e1,e2] at h;exact h
section
variable {H:Type}{enc:TypeId × Value->H}{w:World}{base:Nat}{spare:Nat->Bool}{held:Bool}
def KF{r:Reach}{b0:Nat}{t:TypeId}(ht:Tryz.prog.underlying t=some (.int .i64)){v:Value}{d:DataW H}{p:List MemPlace}(hv:Value.okWide Tryz.prog w r b0 t v)(h:DataW.Trod enc Tryz.prog w base spare held t v d p) :
 ∃n:Int,v=.int .i64 n/\ -9223372036854775808<=n/\n<=9223372036854775807:=by
 obtain⟨n,rfl,_,_,hw⟩:=open_int ht hv h;exact⟨n,rfl,zn hw⟩
end
section
variable {H:Type}{enc:TypeId × Value->H}{P:Program}{w:World}{base:Nat}{spare:Nat->Bool}{held:Bool}
def PI{t0 t1 t2:TypeId}{args:Array Value}{ds:List (DataW H)}{ps:List MemPlace}(h:DataW.TrodAll enc P w base spare held [t0,t1,t2] args.toList ds ps) :
 ∃v0 v1 v2 d0 d1 d2,(∃p,DataW.Trod enc P w base spare held t0 v0 d0 p)/\(∃p,DataW.Trod enc P w base spare held t1 v1 d1 p)/\(∃p,DataW.Trod enc P w base spare held t2 v2 d2 p)/\args = #[v0,v1,v2]/\ds=[d0,d1,d2]:=by
 obtain⟨v0,vs,d0,ds',p0,q,hargs,rfl,rfl,h0,h⟩:=trodAll_cons h;obtain⟨v1,vs,d1,ds',p1,q,rfl,rfl,rfl,h1,h⟩:=trodAll_cons h;obtain⟨v2,vs,d2,ds',p2,q,rfl,rfl,rfl,h2,h⟩:=trodAll_cons h;obtain⟨rfl,rfl,rfl⟩:=trodAll_nil h;exact⟨v0,v1,v2,d0,d1,d2,⟨_,h0⟩,⟨_,h1⟩,⟨_,h2⟩,Array.toList_inj.1 hargs,rfl⟩
end
set_option maxRecDepth 100000
def kR(w:World):ak:=fun b=>match w.heap[b]? with
 |some (.cells c _ _)=>some c
 |_=>none
def Q9(w:World):HeapHas w (kR w):=fun b arr h=>by
 unfold kR at h;split at h
 . rename_i c et fr e;injection h with h;subst h;exact⟨et,fr,e⟩
 cases h
def pk(P:Program)(t:TypeId)(zs:List IV):IV:=match P.underlying t with
 |some (.struct _)=>.agg zs
 |_=>zs.head?.getD (.bool false)
def mkV(P:Program)(t:TypeId)(cs:List Value):Value:=match P.underlying t with
 |some (.struct _)=>.agg cs.toArray
 |_=>cs.head?.getD .nilFunc
def AT(F:TypeId->List IV->Prop):List Field->List IV->Prop
 | [],ys=>ys=[]
 |f::fs,ys=>∃a b,F f.type a/\AT F fs b/\ys=a++b
def Sh(P:Program):Nat->TypeId->List IV->Prop
 |0,_,_=>False
 |n+1,t,ys=>match P.underlying t with
  |some (.int k)=>∃z,ys=[.int k z]/\(Lit.int k z).wf=true
  |some (.slice e)=>∃es,ys=[.sl es]/\(es.length<2^63/\es.length*P.bytesOf e<=reachBytes)/\∀y∈es,∃zs,Sh P n e zs/\y=pk P e zs
  |some (.struct fs)=>AT (fun t=>Sh P n t) fs.toList ys
  |_=>False
def wN(P:Program)(T:Nat):List Field->Nat->Bool
 | [],o=>o==T
 |f::fs,o=>f.offset==o&&wN P T fs (o+P.cellsOf f.type)
def od(P:Program):Nat->TypeId->Bool
 |0,_=>false
 |n+1,t=>match P.underlying t with
  |some (.int _)=>P.cellsOf t==1
  |some (.slice e)=>P.cellsOf t==1&&(Nat.blt 0 (P.cellsOf e)&&od P n e)
  |some (.struct fs)=>wN P (P.cellsOf t) fs.toList 0&&fs.toList.all fun f=>od P n f.type
  |_=>false
section
variable {H:Type}{enc:TypeId × Value->H}{P:Program}{w:World}{spare:Nat->Bool}{held:Bool}
def Lo{a:Addr}{k n:Nat}{cs:List Value}(hn:0<n)(h:w.cells? 0 (a.add k) n=some cs) :
 (k=0->a=⟨a.block,a.off,none⟩)/\∃c,kR w a.block=some c/\(c.toList.drop (a.off+k)).take n=cs:=by
 obtain⟨_,hl,hc⟩:=World.cells?_some h;have hc0:=hc 0 hn;rw[add_add] at hc0;obtain⟨x,hx⟩:∃x,cs[0]?=some x:=⟨_,bi (by omega)⟩;rw[hx] at hc0;have hb:∀j,(a.add j).block=a.block/\(a.add j).off=a.off+j/\(j≠0->(a.add j).spot=none)/\(j=0->(a.add j).spot=a.spot):=fun j=>by
  unfold Addr.add;split
  . rename_i hj;subst hj;exact⟨rfl,rfl,fun h=>absurd rfl h,fun _=>rfl⟩
  rename_i hj;exact⟨rfl,rfl,fun _=>rfl,fun h=>absurd h hj⟩
 obtain⟨c,et,fr,hbk,hsp⟩:∃c et fr,w.heap[a.block]?=some (.cells c et fr)/\(a.add (k+0)).spot=none:=by
  unfold World.cell? at hc0;rw[(hb _).1] at hc0;cases hh:w.heap[a.block]? with
  |none=>rw[hh] at hc0;simp at hc0
  |some o=>
   rw[hh] at hc0;cases o with
   |cells c et fr=>
    refine⟨c,et,fr,rfl,?_⟩;cases hs:(a.add (k+0)).spot with
    |none=>rfl
    |some s=>rw[hs] at hc0;simp at hc0
   |_=>simp at hc0
 have hadd:∀i,a.add (k+i)=⟨a.block,a.off+(k+i),none⟩:=by
  intro i;obtain⟨h1,h2,h3,h4⟩:=hb (k+i);have h5:(a.add (k+i)).spot=none:=by
   by_cases hz:k+i=0
   . have:k+i=k+0:=by omega
     rw[this];exact hsp
   exact h3 hz
  cases hq:a.add (k+i);rw[hq] at h1 h2 h5
  simp_all
 refine⟨fun hk=>?_,c,by unfold kR;rw[hbk],?_⟩
 . have:=hadd 0;subst hk;have h4:=(hb (0+0)).2.2.2 rfl;rw[hsp] at h4;cases a
   simp_all
 apply qE;intro i;rw[dt];by_cases hi:i<n
 . rw[au hi,<-hc i hi,add_add,hadd,sk];unfold World.cell?;simp only[hbk,uK];rw[mG];rfl
 rw[aq hi,sq (by omega)]
def mkV_ok{Hp:ak}{e:TypeId}{cs:List Value}{ys:List IV}(hs:VRL Hp cs ys)(h1:∀v∈cs,v.oneCell'=true)(hl:(∃fs,P.underlying e=some (.struct fs))\/cs.length=1) :
 VR Hp (mkV P e cs) (pk P e ys)/\(mkV P e cs).cells.toList=cs:=by
 unfold mkV pk;split
 . exact⟨.agg _ _ hs h1,by simp[Value.cells]⟩
 rename_i hne;rcases hl with⟨fs,h⟩|hl
 . exact absurd h (hne fs)
 cases hs with
 |nil=>cases hl
 |cons v x vs xs h t=>
  cases vs with
  |cons _ _=>simp at hl
  |nil=>
   cases t;refine⟨h,?_⟩;have:=(h.of_one (h1 v (by simp))).1;show v.cells.toList=[v];rw[this]
def J6{n:Nat}{e:TypeId}(h:od P n e=true):(∃fs,P.underlying e=some (.struct fs))\/P.cellsOf e=1:=by
 cases n with
 |zero=>cases h
 |succ n=>
  unfold od at h;split at h
  . exact .inr (by simpa using h)
  . exact .inr (by simp only[aH,xC] at h;exact h.1)
  . rename_i fs hf;exact .inl ⟨fs,hf⟩
  cases h
def JF{Q:TypeId->List IV->Prop}{Hp:ak}{cs:List Value} :
 ∀(l:List Field) (o:Nat),wN P cs.length l o=true->
  (∀f∈l,((cs.drop f.offset).take (P.cellsOf f.type)).length=P.cellsOf f.type/\(∀v∈(cs.drop f.offset).take (P.cellsOf f.type),v.oneCell'=true)/\∃ys,VRL Hp ((cs.drop f.offset).take (P.cellsOf f.type)) ys/\Q f.type ys)->
  (∀v∈cs.drop o,v.oneCell'=true)/\∃ys,VRL Hp (cs.drop o) ys/\AT Q l ys
 | [],o,ho,_=>by
  have ho:o=cs.length:=by simpa[wN] using ho
  rw[ho,xN];exact⟨fun v hv=>(bR hv).elim,[],.nil,rfl⟩
 |f::l,o,ho,hf=>by
  simp only[wN,aH,xC] at ho;obtain⟨h1,h2⟩:=ho;obtain⟨a1,a2,ys,a3,a4⟩:=hf f (by simp);rw[h1] at a1 a2 a3;obtain⟨b1,zs,b2,b3⟩:=JF l _ h2 fun g hg=>hf g (dC _ hg);have e:cs.drop o=(cs.drop o).take (P.cellsOf f.type)++cs.drop (o+P.cellsOf f.type):=by
   rw[<-oD,kC]
  rw[e];refine⟨fun v hv=>?_,ys++zs,a3.append b2,ys,zs,a4,b3,rfl⟩;rcases List.mem_append.1 hv with h|h
  . exact a2 v h
  exact b1 v h
def Qy{c:List Value}{off sz:Nat}{Vz9:Nat->Value}{len:Nat}(h:∀i,i<len->(c.drop (off+i*sz)).take sz=(Vz9 i).cells.toList) :
 ∀k,k<=len->(c.drop off).take (k*sz)=aX ((List.range k).map Vz9):=by
 intro k;induction k with
 |zero=>intro _;simp[aX]
 |succ k ih=>
  intro hk;rw[xL,List.take_add,ih (by omega),sG,dD,oD,h k (by omega)];unfold aX;rw[eV];congr 1;simp
def Gl{e:TypeId}:∀{l:List (DataW H)} {d:DataW H},d∈l->∀n∈d.weights P e,n∈DataW.weightsAll P e l
 |x::l,d,h,n,hn=>by
  rw[DataW.weightsAll,qB];rcases List.mem_cons.1 h with rfl|h
  . exact .inl hn
  exact .inr (Gl h n hn)
def EB:∀{n:Nat} {t:TypeId} {m:Nat} {cs:List Value} {x:DataW H×List MemPlace},od P n t=true->(∀k∈x.1.weights P t,k<=reachBytes)->DataW.trod enc P w 0 spare held m t cs=some x->
 cs.length=P.cellsOf t/\(∀v∈cs,v.oneCell'=true)/\∃ys,VRL (kR w) cs ys/\Sh P n t ys
 |0,_,_,_,_,hs,_,_=>by cases hs
 |n+1,t,m,cs,x,hs,hw,h=>by
  unfold od at hs;unfold Sh;split at hs
  . rename_i k ht;have hc:P.cellsOf t=1:=by simpa using hs
    obtain⟨z,hcs,_,hwf⟩:=DataW.trod_int ht h;subst hcs;refine⟨hc.symm,fun v hv=>by rw[List.mem_singleton.1 hv];rfl,[.int k z],.cons _ _ _ _ (.int _ _) .nil,?_⟩;exact⟨z,rfl,hwf⟩
  .
   rename_i e ht;simp only[aH,xC] at hs;obtain⟨hc,hz,he⟩:=hs;have hz:0<P.cellsOf e:=bl hz;have nilc:∀a c,cs=[.slice a 0 c]->cs.length=P.cellsOf t/\(∀v∈cs,v.oneCell'=true)/\∃ys,VRL (kR w) cs ys/\∃es,ys=[.sl es]/\(es.length<2^63/\es.length*P.bytesOf e<=reachBytes)/\∀y∈es,∃zs,Sh P n e zs/\y=pk P e zs:=by
    intro a c hcs;subst hcs;exact⟨hc.symm,fun v hv=>by rw[List.mem_singleton.1 hv];rfl,[.sl []],.cons _ _ _ _ (.sl0 _ _) .nil,[],rfl,⟨by decide,by simp⟩,fun y hy=>(bR hy).elim⟩
   rcases open_slice ht h with⟨h0,_⟩|⟨a,len,cap,m',n',D,Pl,hcs,hb,hl,hm,hmm,hxe,hx⟩
   . exact nilc _ _ h0
   by_cases hlen:len=0
   . subst hlen;exact nilc _ _ hcs
   have hlm:len<=m':=by rw[hmm];split<;>omega
   rw[hxe] at hw;simp only[DataW.weights,ht,fD,qB,aV,Ox] at hw;have hw0:=hw _ (.inl rfl);have hwl:len*P.bytesOf e<=reachBytes:=bf (cL _ (Bf _ _)) hw0;have hwi:∀i,i<len->∀k∈(D i).weights P e,k<=reachBytes:=fun i hi k hk=>hw k (.inr (.inl (Gl (List.mem_map.2 ⟨i,by simpa using hi,rfl⟩) k hk)));obtain⟨N,hN⟩:=choose_lt (α:=List Value×List IV) (n:=len) (p:=fun i q=>w.cells? 0 (a.add (i*P.cellsOf e)) (P.cellsOf e)=some q.1/\q.1.length=P.cellsOf e/\(∀v∈q.1,v.oneCell'=true)/\VRL (kR w) q.1 q.2/\Sh P n e q.2) (fun i hi=>by
    obtain⟨cs',h1,h2⟩:=hx i (by omega);obtain⟨k1,k2,ys,k3,k4⟩:=EB (x:=(D i,Pl i)) he (hwi i hi) h2;exact⟨(cs',ys),h1,k1,k2,k3,k4⟩)
   have hmk:∀i,i<len->VR (kR w) (mkV P e (N i).1) (pk P e (N i).2)/\(mkV P e (N i).1).cells.toList=(N i).1:=fun i hi=>by
    obtain⟨_,k1,k2,k3,_⟩:=hN i hi;refine mkV_ok k3 k2 ?_;rcases J6 he with h|h
    . exact .inl h
    exact .inr (by omega)
   obtain⟨ea,c,hbk,_⟩:=Lo hz (hN 0 (by omega)).1;have ea:=ea (nN _);have hat:∀i,i<len->(c.toList.drop (a.off+i*P.cellsOf e)).take (P.cellsOf e)=(mkV P e (N i).1).cells.toList:=fun i hi=>by
    obtain⟨_,c',hbk',h'⟩:=Lo hz (hN i hi).1;rw[hbk] at hbk';cases hbk';rw[(hmk i hi).2];exact h'
   have hvl:∀k,k<=len->VRL (kR w) ((List.range k).map fun i=>mkV P e (N i).1) ((List.range k).map fun i=>pk P e (N i).2):=by
    intro k;induction k with
    |zero=>intro _;exact .nil
    |succ k ih=>
     intro hk;rw[sG,dD,dD];exact(ih (by omega)).append (.cons _ _ _ _ (hmk k (by omega)).1 .nil)
   have hml:maxLen<2^63:=by decide
   subst hcs;refine⟨hc.symm,fun v hv=>by rw[List.mem_singleton.1 hv];rfl,[.sl ((List.range len).map fun i=>pk P e (N i).2)],.cons _ _ _ _ ?_ .nil,_,rfl,⟨by simp;omega,by rw[aV,Ox];exact hwl⟩,fun y hy=>?_⟩
   .
    rw[ea];refine VR.sl a.block a.off len cap (P.cellsOf e) c ((List.range len).map fun i=>mkV P e (N i).1) _ hbk (hvl len (ah _)) (by simp) hl ?_ ?_
    . intro v hv;obtain⟨i,hi,rfl⟩:=List.mem_map.1 hv;have hi:i<len:=by simpa using hi
      have h1:=aL List.length (hmk i hi).2;rw[(hN i hi).2.1] at h1;simpa using h1
    rw[aV,Ox];exact Qy hat len (ah _)
   obtain⟨i,hi,rfl⟩:=List.mem_map.1 hy;exact⟨_,(hN i (by simpa using hi)).2.2.2.2,rfl⟩
  .
   rename_i fs ht;simp only[aH,mN] at hs;obtain⟨ho,hall⟩:=hs;obtain⟨xs,n',_,hxe,hl,hxl,hf⟩:=DataW.trod_struct ht h;rw[hxe] at hw;simp only[DataW.weights,ht] at hw;rw[<-hl] at ho;have:=JF (P:=P) (Q:=fun t=>Sh P n t) (Hp:=kR w) fs.toList 0 ho fun f hfm=>by
    obtain⟨i,hi⟩:=List.mem_iff_getElem?.1 hfm;have hi':fs[i]?=some f:=by simpa using hi
    have hlt:i<fs.size:=by
     rcases gb i fs.size with h|h
     . exact h
     rw[uO h] at hi';cases hi'
    have h1:=hf i f hi';obtain⟨y,hy⟩:∃y,xs[i]?=some y:=⟨_,bi (by omega)⟩;rw[hy] at h1;exact EB (x:=y) (hall f hfm) (fun k hk=>hw k (DataW.weights_mem_each (j:=i) (t:=f.type) (d:=y.1) (by rw[bI];simp[hi']) (by rw[bI,hy];rfl) k hk)) h1
   exact⟨hl,this⟩
  cases hs
def WN{n:Nat}{t:TypeId}{v:Value}{d:DataW H}{r:Reach}{b0:Nat}(hs:od P n t=true)(hw:∀k∈d.weights P t,k<=reachBytes)(hv:Value.okWide P w r b0 t v)(h:∃p,DataW.Trod enc P w 0 spare held t v d p):∃ys,VR (kR w) v (pk P t ys)/\Sh P n t ys:=by
 obtain⟨p,fuel,hf⟩:=h;obtain⟨h1,h2,ys,h3,h4⟩:=EB (x:=(d,p)) hs hw hf;refine⟨ys,?_,h4⟩;have:=(mkV_ok (P:=P) (e:=t) h3 h2 (by
  rcases J6 hs with h|h
  . exact .inl h
  exact .inr (by omega))).1
 have e:mkV P t v.cells.toList=v:=by
  cases n with
  |zero=>cases hs
  |succ n=>
   unfold od at hs;unfold mkV;split at hs
   . rename_i k ht;obtain⟨z,rfl⟩:=okWide_int ht hv;rw[ht];rfl
   . rename_i e ht;obtain⟨a,l,c,rfl⟩:=okWide_slice ht hv;rw[ht];rfl
   . rename_i fs ht;obtain⟨cs,rfl,_⟩:=okWide_struct ht hv;rw[ht];simp[Value.cells]
   cases hs
 rw[e] at this;exact this
def Sh.int{n:Nat}{t:TypeId}{k:IntKind}{ys:List IV}(ht:P.underlying t=some (.int k))(h:Sh P (n+1) t ys):∃z,ys=[.int k z]/\(Lit.int k z).wf=true:=by
 unfold Sh at h;rw[ht] at h;exact h
def Sh.sl{n:Nat}{t e:TypeId}{ys:List IV}(ht:P.underlying t=some (.slice e))(h:Sh P (n+1) t ys):∃es,ys=[.sl es]/\(es.length<2^63/\es.length*P.bytesOf e<=reachBytes)/\∀y∈es,∃zs,Sh P n e zs/\y=pk P e zs:=by
 unfold Sh at h;rw[ht] at h;exact h
def Sh.st{n:Nat}{t:TypeId}{fs:Array Field}{ys:List IV}(ht:P.underlying t=some (.struct fs))(h:Sh P (n+1) t ys):AT (fun t=>Sh P n t) fs.toList ys:=by
 unfold Sh at h;rw[ht] at h;exact h
end
def yw{α U:Type}{f:α->U}{Q:α->Prop}:∀{l:List U},(∀y∈l,∃x,y=f x/\Q x)->∃k:List α,l=k.map f/\∀x∈k,Q x
 | [],_=>⟨[],rfl,fun _ h=>(bR h).elim⟩
 |y::l,h=>by
  obtain⟨x,rfl,hx⟩:=h y (by simp);obtain⟨k,rfl,hk⟩:=yw fun z hz=>h z (dC _ hz);exact⟨x::k,rfl,fun z hz=>by rcases List.mem_cons.1 hz with rfl|hz;exact hx;exact hk z hz⟩
def VA{n:Nat}{ys:List IV}(h:Sh Tryz.prog (n+2) 129 ys):∃x:Num3,ys=[.int .i64 x.n,.int .i64 x.d,.int .u8 (x.p:Int)]/\x.ok:=by
 obtain⟨_,_,h1,⟨_,_,h2,⟨_,_,h3,rfl,rfl⟩,rfl⟩,rfl⟩:=Sh.st Tryz.underlying129 h;obtain⟨a,rfl,ha⟩:=Sh.int Tryz.underlying2 h1;obtain⟨b,rfl,hb⟩:=Sh.int Tryz.underlying2 h2;obtain⟨c,rfl,hc⟩:=Sh.int Tryz.underlying5 h3;obtain⟨p,rfl,hp⟩:=WV hc;exact⟨⟨a,b,p⟩,rfl,zn ha,zn hb,hp⟩
def J9{n:Nat}{ys:List IV}(h:Sh Tryz.prog (n+3) 37 ys):∃l:List Num3,ys=[.sl (l.map Num3.iv)]/\l.length<2^63/\∀x∈l,x.ok:=by
 obtain⟨es,rfl,hl,he⟩:=Sh.sl Tryz.underlying37 h;obtain⟨k,rfl,hk⟩:=yw (f:=Num3.iv) (Q:=Num3.ok) fun y hy=>by
  obtain⟨zs,h1,rfl⟩:=he y hy;obtain⟨x,rfl,hx⟩:=VA h1;exact⟨x,by unfold pk;rw[Tryz.underlying129];rfl,hx⟩
 exact⟨k,rfl,by simpa using hl.1,hk⟩
set_option maxRecDepth 100000
def rowI(r:List Num3):IV:=.sl (r.map Num3.iv)
structure Swm where
 n:Int
 at_:List (List Num3)
 ws:List Num3
def Swm.iv(x:Swm):IV:=.agg [.int .i64 x.n,.sl (x.at_.map rowI),.sl (x.ws.map Num3.iv)]
structure Swm.Ok(x:Swm):Prop where
 i : -9223372036854775808<=x.n/\x.n<=9223372036854775807
 l:x.at_.length*24<=reachBytes
 r:∀r∈x.at_,r.length<2^63/\∀y∈r,y.ok
 w:x.ws.length<2^63/\∀y∈x.ws,y.ok
def Te{n:Nat}{ys:List IV}(h:Sh Tryz.prog (n+4) 36 ys):∃l:List (List Num3),ys=[.sl (l.map rowI)]/\l.length*24<=reachBytes/\∀r∈l,r.length<2^63/\∀x∈r,x.ok:=by
 obtain⟨es,rfl,hl,he⟩:=Sh.sl Tryz.underlying36 h;obtain⟨k,rfl,hk⟩:=yw (f:=rowI) (Q:=fun r:List Num3=>r.length<2^63/\∀x∈r,x.ok) fun y hy=>by
  obtain⟨zs,h1,rfl⟩:=he y hy;obtain⟨r,rfl,hr,hx⟩:=J9 h1;exact⟨r,by unfold pk;rw[Tryz.underlying37];rfl,hr,hx⟩
 exact⟨k,rfl,by have:=hl.2;rw[show Tryz.prog.bytesOf 37=24 by kernel_rfl,aV] at this;exact this,hk⟩
def Vz{n:Nat}{ys:List IV}(h:Sh Tryz.prog (n+5) 39 ys):∃x:Swm,ys=[.int .i64 x.n,.sl (x.at_.map rowI),.sl (x.ws.map Num3.iv)]/\x.Ok:=by
 obtain⟨_,_,h1,⟨_,_,h2,⟨_,_,h3,rfl,rfl⟩,rfl⟩,rfl⟩:=Sh.st Tryz.underlying39 h;obtain⟨a,rfl,ha⟩:=Sh.int Tryz.underlying3 h1;obtain⟨l,rfl,hl,hr⟩:=Te h2;obtain⟨w,rfl,hw,hx⟩:=J9 h3;exact⟨⟨a,l,w⟩,rfl,zn ha,hl,hr,hw,hx⟩
def Td{n:Nat}{ys:List IV}(h:Sh Tryz.prog (n+6) 22 ys):∃l:List Swm,ys=[.sl (l.map Swm.iv)]/\l.length<2^62/\∀x∈l,x.Ok:=by
 obtain⟨es,rfl,hl,he⟩:=Sh.sl Tryz.underlying22 h;obtain⟨k,rfl,hk⟩:=yw (f:=Swm.iv) (Q:=Swm.Ok) fun y hy=>by
  obtain⟨zs,h1,rfl⟩:=he y hy;obtain⟨x,rfl,hx⟩:=Vz h1;exact⟨x,by unfold pk;rw[Tryz.underlying39];rfl,hx⟩
 exact⟨k,rfl,by
  have:=hl.2;rw[show Tryz.prog.bytesOf 39=56 by kernel_rfl,aV] at this;have hreach:reachBytes=140737488351232:=rfl;omega,hk⟩
end Go.Proofs.Fl
namespace Go.Proofs.Fl
open Go.RowKit Go.Proofs.Dig
attribute [local irreducible] IntKind.wrap aW bc bj bm
noncomputable def rowQ(r:List Num3):IV:=.sl (r.map fun x=>qr x.q)
noncomputable def kX(r:List Num3):IV:=.sl (r.map fun x=>rr x.q)
def jZ(r:List Num3):Bool:=decide (r.length<=8)&&r.all Num3.tame
noncomputable def r7(l:List (List Num3))(most:Int)(k:Nat):AS :=
 match k with
 |0=>aF [(0,.iv (.sl (l.map rowI))),(1,.iv (.int .i64 most)),(7,.nilS),(8,.nilS),(9,.iv (.int .i64 0))] [] 20
 |k+1=>aF [(0,.iv (.sl (l.map rowI))),(1,.iv (.int .i64 most)),(7,.ref 0 0 (k+1) true),(8,.ref 1 0 (k+1) true),(9,.iv (.int .i64 ((k+1:Nat):Int)))]
  [(0,.arr 27 1 ((l.take (k+1)).map rowQ) false),(1,.arr 31 1 ((l.take (k+1)).map kX) false)] 20
noncomputable def wW(l:List (List Num3))(most:Int):IV:=bif l.all jZ then .tup [.sl (l.map rowQ),.sl (l.map kX),.bool (decide ((l.length:Int)<=most))] else .tup [.sl [],.sl [],.bool false]
def V5(J:Keep){l:List (List Num3)}{most:Int}(hl:l.length*24<=reachBytes)(hr:∀r∈l,r.length<2^63/\∀x∈r,x.ok):C J 19 [.sl (l.map rowI),.int .i64 most] (wW l most):=by
 have hreach:reachBytes=140737488351232:=rfl;rw[hreach] at hl;refine aN Tryz.func19 rfl rfl rfl ?_;have la:(l.map rowI).length=l.length:=by simp
 refine aK ?_;refine W.loop (G:={ k:Nat // k<=l.length/\(l.take k).all jZ=true }) (fun k=>r7 l most k.1) (fun k=>l.length-k.1) ⟨0,ba _,by simp⟩ (Wk.tab [] ⟨ab,ab,ab,ab,ab,aa⟩ trivial rfl) ?_;rintro⟨k,hk,hall⟩;by_cases hke:k<l.length
 .
  have g:(l.map rowI)[k]?=some (rowI l[k]):=by simp[hke]
  have tk:l.take (k+1)=l.take k ++ [l[k]]:=N3 hke;obtain⟨r1,r2⟩:=hr l[k] (iw hke);have hbad:jZ l[k]=false->wW l most=.tup [.sl [],.sl [],.bool false]:=fun h=>by
   have:l.all jZ=false:=List.all_eq_false.2 ⟨l[k],iw hke,by simp[h]⟩;unfold wW;rw[this];rfl
  obtain⟨r,hrk⟩:∃r,l[k]=r:=⟨_,rfl⟩;rw[hrk] at g tk r1 r2 hbad;have g:(l.map rowI)[k]?=some (.sl (r.map Num3.iv)):=g;have lr:(r.map Num3.iv).length=r.length:=by simp
  by_cases h8:r.length<=8
  .
   have c1:=r34_ok J (l:=r) (by omega);cases ht:r.all Num3.tame with
   |false=>
    rw[ht] at c1;rw[hbad (by unfold jZ;rw[ht];simp)];cases k with
    |zero=>
     unfold r7;repeat (first|(refine af ?_)|((first|refine⟨_,c1,?_⟩|refine⟨0,_,rfl,g,rfl,?_⟩);conv=>whnf)|(refine ap ?_))
     rfl
    |succ k=>
     unfold r7;repeat (first|(refine af ?_)|((first|refine⟨_,c1,?_⟩|refine⟨k+1,_,rfl,g,rfl,?_⟩);conv=>whnf)|(refine ap ?_))
     rfl
   |true=>
    rw[ht] at c1;have c2:=LX J (l:=r) (by omega) r2;have hok:jZ r=true:=by unfold jZ;rw[ht,bB h8];rfl
    cases k with
    |zero=>
     unfold r7;repeat (first|(refine af ?_)|((first|refine⟨_,c1,?_⟩|refine⟨_,c2,?_⟩|refine⟨0,_,rfl,g,rfl,?_⟩|refine⟨tj ⟨rfl,rfl⟩,bl rfl,bl rfl,?_⟩);conv=>whnf)|(refine ap ?_))
     exact⟨⟨0+1,by omega,by rw[tk,Gd,hall,dl,hok];rfl⟩,Wk.tab [(0,51),(1,55)] ⟨ab,ab,ab,ab,ab,aa⟩ ⟨qa (by rw[tk];rfl),qa (by rw[tk];rfl),aa⟩ rfl,by dsimp only;omega⟩
    |succ k=>
     have l1:k+1=((l.take (k+1)).map rowQ).length:=by simp;omega
     have l2:k+1=((l.take (k+1)).map kX).length:=by simp;omega
     unfold r7;repeat (first|(refine af ?_)|((first|refine⟨_,c1,?_⟩|refine⟨_,c2,?_⟩|refine⟨k+1,_,rfl,g,rfl,?_⟩);conv=>whnf)|(refine⟨ko,rfl,rfl,l1,tj ⟨rfl,rfl⟩,by show(k+1+1)*24<=(140737488355328:Nat);omega,by show k+1+1<=maxLen;unfold maxLen;omega,?_⟩;conv=>whnf)|(refine⟨ko,rfl,rfl,l2,tj ⟨rfl,rfl⟩,by show(k+1+1)*24<=(140737488355328:Nat);omega,by show k+1+1<=maxLen;unfold maxLen;omega,?_⟩;conv=>whnf)|(refine ap ?_))
     exact⟨⟨k+1+1,by omega,by rw[tk,Gd,hall,dl,hok];rfl⟩,Wk.tab [(0,51),(1,55)] ⟨ab,ab,ab,ab,ab,aa⟩ ⟨qa (by rw[tk,dD];rfl),qa (by rw[tk,dD];rfl),aa⟩ rfl,by dsimp only;omega⟩
  rw[hbad (by unfold jZ;rw[bE h8];rfl)];cases k with
  |zero=>
   unfold r7;repeat (first|(refine af ?_)|(refine⟨0,_,rfl,g,rfl,?_⟩;conv=>whnf)|(refine ap ?_))
   rfl
  |succ k=>
   unfold r7;repeat (first|(refine af ?_)|(refine⟨k+1,_,rfl,g,rfl,?_⟩;conv=>whnf)|(refine ap ?_))
   rfl
 have e:k=l.length:=by omega
 have hall':l.all jZ=true:=by rw[e,cN] at hall;exact hall
 unfold wW;rw[hall',al];cases l with
 |nil=>
  subst e;by_cases hm:(0:Int)<=most
  . rw[bB (show((([]:List (List Num3)).length:Nat):Int)<=most from hm)];show W J _ _ (aF [(0,.iv (.sl [])),(1,.iv (.int .i64 most)),(7,.nilS),(8,.nilS),(9,.iv (.int .i64 0))] [] 20) _;refine aK ?_;rfl
  rw[bE (show ¬((([]:List (List Num3)).length:Nat):Int)<=most from hm)];show W J _ _ (aF [(0,.iv (.sl [])),(1,.iv (.int .i64 most)),(7,.nilS),(8,.nilS),(9,.iv (.int .i64 0))] [] 20) _;refine aK ?_;rfl
 |cons y l=>
  subst e;have e1:(y::l).take (l.length+1)=y::l:=ay (by simp);have la2:(l.map rowI).length=l.length:=by simp
  have la':((y::l).map rowI).length=l.length+1:=by simp
  have hlen:(((y::l).length:Nat):Int)=((l.length+1:Nat):Int):=rfl;rw[hlen];show W J _ _ (aF [(0,.iv (.sl ((y::l).map rowI))),(1,.iv (.int .i64 most)),(7,.ref 0 0 (l.length+1) true),(8,.ref 1 0 (l.length+1) true),(9,.iv (.int .i64 ((l.length+1:Nat):Int)))]
   [(0,.arr 27 1 (((y::l).take (l.length+1)).map rowQ) false),(1,.arr 31 1 (((y::l).take (l.length+1)).map kX) false)] 20) _
  rw[e1];by_cases hm:((l.length+1:Nat):Int)<=most
  . rw[bB hm];repeat (first|(refine af ?_)|(refine⟨_,kU _,?_⟩;conv=>whnf)|(refine ap ?_))
    show IV.tup [.sl (List.take (l.length+1) (List.drop 0 ((y::l).map rowQ))),.sl (List.take (l.length+1) (List.drop 0 ((y::l).map kX))),_]=_;rw[bW,bW,ay (by simp),ay (by simp)]
  rw[bE hm];repeat (first|(refine af ?_)|(refine⟨_,kU _,?_⟩;conv=>whnf)|(refine ap ?_))
  show IV.tup [.sl (List.take (l.length+1) (List.drop 0 ((y::l).map rowQ))),.sl (List.take (l.length+1) (List.drop 0 ((y::l).map kX))),_]=_;rw[bW,bW,ay (by simp),ay (by simp)]
noncomputable def jG(x:Swm):IV:=.agg [.int .i64 x.n,.sl (x.at_.map rowQ),.sl (x.ws.map fun y=>qr y.q)]
noncomputable def nH(x:Swm):IV:=.agg [.int .i64 x.n,.sl (x.at_.map kX),.sl (x.ws.map fun y=>rr y.q)]
def ii(x:Swm)(most:Nat):Bool:=x.at_.all jZ&&(decide (x.at_.length<=most)&&(decide (x.ws.length<=most+2)&&x.ws.all Num3.tame))
noncomputable def zC:IV:=.agg [.int .i64 0,.sl [],.sl []]
def VP(J:Keep){x:Swm}{most:Nat}(hx:x.Ok)(hm:most<=100):C J 5 [x.iv,.int .i64 most] (.tup [bif ii x most then jG x else zC,bif ii x most then nH x else zC,.bool (ii x most)]):=by
 have c1:=V5 J (most:=(most:Int)) hx.l hx.r;refine aN Tryz.func5 rfl rfl rfl ?_;have la:(x.ws.map Num3.iv).length=x.ws.length:=by simp
 unfold Swm.iv;unfold ii;unfold wW at c1;cases h1:x.at_.all jZ with
 |false=>
  rw[h1,bh] at c1;simp only[Bool.false_and,bh];repeat (first|(refine af ?_)|(refine⟨_,c1,?_⟩;conv=>whnf)|(refine ap ?_))
  rfl
 |true=>
  rw[h1,al] at c1;simp only[qK];by_cases h2:x.at_.length<=most
  .
   rw[bB (show(x.at_.length:Int)<=most by omega)] at c1;rw[bB h2];simp only[qK];by_cases h3:x.ws.length<=most+2
   .
    have c2:=r34_ok J (l:=x.ws) (by omega);rw[bB h3];simp only[qK];cases h4:x.ws.all Num3.tame with
    |false=>
     rw[h4] at c2;repeat (first|(refine af ?_)|((first|refine⟨_,c1,?_⟩|refine⟨_,c2,?_⟩);conv=>whnf)|(refine ap ?_))
     rfl
    |true=>
     rw[h4] at c2;have c3:=LX J (l:=x.ws) (by omega) hx.w.2;repeat (first|(refine af ?_)|((first|refine⟨_,c1,?_⟩|refine⟨_,c2,?_⟩|refine⟨_,c3,?_⟩);conv=>whnf)|(refine ap ?_))
     rfl
   rw[bE h3];repeat (first|(refine af ?_)|(refine⟨_,c1,?_⟩;conv=>whnf)|(refine ap ?_))
   rfl
  rw[bE (show ¬(x.at_.length:Int)<=most by omega)] at c1;rw[bE h2];repeat (first|(refine af ?_)|(refine⟨_,c1,?_⟩;conv=>whnf)|(refine ap ?_))
  rfl
def VO(J:Keep){n:Int}{f:List (List IV)}(hf:f.length<2^60)(hr:∀r∈f,r.length<2^60):C J 22 [.int .i64 n,.sl (f.map IV.sl)] (.bool (!f.any fun r=>!decide ((r.length:Int)=n))):=by
 refine aN Tryz.func22 rfl rfl rfl ?_;have la:(f.map IV.sl).length=f.length:=by simp
 refine aK ?_;refine W.loop (G:={ t:Nat // t<=f.length/\(f.take t).any (fun r=>!decide ((r.length:Int)=n))=false }) (fun t=>aF [(0,.iv (.int .i64 n)),(1,.iv (.sl (f.map IV.sl))),(5,.iv (.int .i64 (t.1:Int)))] [] 10) (fun t=>f.length-t.1) ⟨0,ba _,by simp⟩ (Wk.tab [] ⟨ab,ab,ab,aa⟩ trivial rfl) ?_;rintro⟨t,ht,hz⟩;show W J _ _ (aF [(0,.iv (.int .i64 n)),(1,.iv (.sl (f.map IV.sl))),(5,.iv (.int .i64 (t:Int)))] [] 10) _;by_cases h:t<f.length
 .
  obtain⟨r,hx⟩:∃r,f[t]?=some r:=⟨_,bi h⟩;have g:(f.map IV.sl)[t]?=some (.sl r):=by rw[bI,hx];rfl
  have hrl:=hr r (bN hx);by_cases h1:(r.length:Int)=n
  . repeat (first|(refine af ?_)|(refine⟨t,_,rfl,g,rfl,?_⟩;conv=>whnf)|(refine ap ?_))
    exact⟨⟨t+1,h,by rw[dO,hx,List.any_append,hz];simp[h1]⟩,Wk.tab [] ⟨ab,ab,ab,aa⟩ trivial rfl,by dsimp only;omega⟩
  rw[show f.any (fun r=>!decide ((r.length:Int)=n))=true from List.any_eq_true.2 ⟨r,bN hx,by simp[h1]⟩];repeat (first|(refine af ?_)|(refine⟨t,_,rfl,g,rfl,?_⟩;conv=>whnf)|(refine ap ?_))
  rfl
 have e:t=f.length:=by omega
 subst e;rw[cN] at hz;rw[hz];refine aK ?_;rfl
def rE(n:Int)(f:List (List IV))(w:List IV):Bool:=decide (1<=n)&&(decide (n<=4)&&(decide (f.length<=2000)&&(decide (w.length=f.length) && !f.any fun r=>!decide ((r.length:Int)=n))))
def VN(J:Keep){n:Int}{f:List (List IV)}{w:List IV}(hf:f.length<2^60)(hr:∀r∈f,r.length<2^60)(hw:w.length<2^60):C J 6 [.agg [.int .i64 n,.sl (f.map IV.sl),.sl w]] (.bool (rE n f w)):=by
 refine aN Tryz.func6 rfl rfl rfl ?_;have la:(f.map IV.sl).length=f.length:=by simp
 have c1:=VO J (n:=n) hf hr;unfold rE;obtain⟨v,hv⟩:∃v,(f.any fun r=>!decide ((r.length:Int)=n))=v:=⟨_,rfl⟩;rw[hv] at c1 ⊢;by_cases h1:1<=n
 .
  rw[bB h1];by_cases h2:n<=4
  .
   rw[bB h2];by_cases h3:f.length<=2000
   .
    rw[bB h3];by_cases h4:w.length=f.length
    . rw[bB h4];repeat (first|(refine af ?_)|(refine⟨_,c1,?_⟩;conv=>whnf)|(refine ap ?_))
      rfl
    rw[bE h4];refine aK ?_;rfl
   rw[bE h3];refine aK ?_;rfl
  rw[bE h2];refine aK ?_;rfl
 rw[bE h1];refine aK ?_;rfl
noncomputable def um(g:Gap6):IV:=sd g.lo.q g.hi.q
def ox(n:Int):IV:=.agg [.int .i64 n,.sl [],.sl []]
noncomputable def YF(a b:List Gap6)(n m:Int)(CQ DQ:IV):AS:=aF [(2,.iv (.sl (a.map Gap6.iv))),(3,.iv (.sl (b.map Gap6.iv))),(9,.ptr 0 0),(12,.ptr 1 0),(15,.ptr 2 0),(16,.ptr 3 0),(17,.ptr 4 0),(18,.nilS),(19,.nilS),(20,.nilS),(21,.iv (.int .i64 0))] [(0,.var CQ),(1,.var DQ),(2,.var (ox n)),(3,.var (ox m)),(4,.var (ox (n+m)))] 40
noncomputable def YE(a b:List Gap6)(n m:Int)(CQ DQ:IV)(k:Nat):AS:=aF [(2,.iv (.sl (a.map Gap6.iv))),(3,.iv (.sl (b.map Gap6.iv))),(9,.ptr 0 0),(12,.ptr 1 0),(15,.ptr 2 0),(16,.ptr 3 0),(17,.ptr 4 0),(18,.ref 5 0 (k+1) true),(19,.nilS),(20,.ref 6 0 (k+1) true),(21,.iv (.int .i64 ((k+1:Nat):Int)))] [(0,.var CQ),(1,.var DQ),(2,.var (ox n)),(3,.var (ox m)),(4,.var (ox (n+m))),(5,.arr 114 6 ((a.take (k+1)).map um) false),(6,.arr 114 6 ((a.take (k+1)).map um) false)] 40
noncomputable def YD(a b:List Gap6)(n m:Int)(CQ DQ:IV)(k j:Nat):AS:=aF [(2,.iv (.sl (a.map Gap6.iv))),(3,.iv (.sl (b.map Gap6.iv))),(9,.ptr 0 0),(12,.ptr 1 0),(15,.ptr 2 0),(16,.ptr 3 0),(17,.ptr 4 0),(18,.ref 5 0 (k+1) true),(19,.ref 7 0 (j+1) true),(20,.ref 6 0 (k+1+(j+1)) true),(21,.iv (.int .i64 ((k+1+(j+1):Nat):Int)))] [(0,.var CQ),(1,.var DQ),(2,.var (ox n)),(3,.var (ox m)),(4,.var (ox (n+m))),(5,.arr 114 6 (a.map um) false),(6,.arr 114 6 (a.map um++(b.take (j+1)).map um) false),(7,.arr 114 6 ((b.take (j+1)).map um) false)] 40
noncomputable def lwS(a b:List Gap6)(n m:Int)(CQ DQ:IV)(i:Nat):AS:=if i=0 then YF a b n m CQ DQ else if i<=a.length then YE a b n m CQ DQ (i-1) else YD a b n m CQ DQ (a.length-1) (i-a.length-1)
section
variable {a b:List Gap6}{n m:Int}{CQ DQ:IV}
end
end Go.Proofs.Fl
namespace Go.Proofs.En
open Go.RowKit Go.Proofs.Fl Go.Proofs.Dig
attribute [local irreducible] IntKind.wrap aW bc bj bm SW c7 CallOk To Tr ct
open Go.Proofs.Reg
structure ClOk(n j:Nat)(c:Cl):Prop where
 l:c.length<=100
 p:∀x∈c,x.1.length=n/\(∀y∈x.1,Hb 14 y)/\Hb j x.2
end Go.Proofs.En
namespace Go.Proofs.Fl
open Go.RowKit Go.Proofs.Dig
attribute [local irreducible] IntKind.wrap aW bc bj bm
open Go.Proofs.Reg (Cl Hb cU prodC_len)
open Go.Proofs.En (jl eO ClOk rF Ki jg)
def gQ(x:Swm):Cl:=(x.at_.zip x.ws).map fun z=>(z.1.map Num3.q,z.2.q)
def DV{x:Swm}(h:x.ws.length=x.at_.length):(gQ x).map (fun z=>z.1)=x.at_.map fun r=>r.map Num3.q:=by
 unfold gQ;rw[cC];have:(x.at_.zip x.ws).map Prod.fst=x.at_:=List.map_fst_zip (by omega);conv=>rhs;rw[<-this,cC]
 rfl
def DU{x:Swm}(h:x.ws.length=x.at_.length):(gQ x).map (fun z=>z.2)=x.ws.map Num3.q:=by
 unfold gQ;rw[cC];have:(x.at_.zip x.ws).map Prod.snd=x.ws:=List.map_snd_zip (by omega);conv=>rhs;rw[<-this,cC]
 rfl
def Ly{x:Swm}(h:x.ws.length=x.at_.length):jG x=eO x.n (gQ x):=by
 unfold jG eO jl;have e1:((gQ x).map fun z=>z.1.map qr).map IV.sl=x.at_.map rowQ:=by
  rw[cC];have:=aL (List.map fun r:List Rat=>IV.sl (r.map qr)) (DV h);rw[cC,cC] at this;refine Eq.trans this ?_;refine jI fun r _=>?_;show IV.sl ((r.map Num3.q).map qr)=rowQ r;unfold rowQ;rw[cC];rfl
 have e2:(gQ x).map (fun z=>qr z.2)=x.ws.map fun y=>qr y.q:=by
  have:=aL (List.map qr) (DU h);rw[cC,cC] at this;exact this
 rw[e1,e2]
def C5{x:Swm}(h:x.ws.length=x.at_.length):(gQ x).length=x.at_.length:=by
 unfold gQ;rw[aV,List.length_zip];omega
structure SwOk(x:Swm)(k:Nat):Prop where
 n:x.n=((k+1:Nat):Int)
 w:x.ws.length=x.at_.length
 c:ClOk (k+1) 14 (gQ x)
 l:(gQ x).length<=6
def Mt{x:Swm}(h:ii x 6=true)(hv:rE x.n ((x.at_.map fun r=>r.map fun y=>rr y.q)) (x.ws.map fun y=>rr y.q)=true):∃k,k<=3/\SwOk x k:=by
 unfold ii at h;simp only[aH,ff] at h;obtain⟨h1,h2,h3,h4⟩:=h;unfold rE at hv;simp only[aH,ff,aV,gz] at hv;obtain⟨v1,v2,v3,v4,v5⟩:=hv;have hl:=C5 v4;refine⟨x.n.toNat-1,by omega,by omega,v4,⟨by omega,fun z hz=>?_⟩,by omega⟩;obtain⟨⟨r,y⟩,hzm,rfl⟩:=List.mem_map.1 hz;have hr:=(List.of_mem_zip hzm).1;have hy:=(List.of_mem_zip hzm).2;have hro:=List.all_eq_true.1 h1 r hr;unfold jZ at hro;simp only[aH,ff] at hro;have hlen:(r.length:Int)=x.n:=by
  rw[AY] at v5;have:=v5 (r.map fun y=>rr y.q) (List.mem_map.2 ⟨r,hr,rfl⟩);simpa using this
 refine⟨by show(r.map Num3.q).length=_;rw[aV];omega,fun q hq=>?_,J3 (List.all_eq_true.1 h4 y hy)⟩;obtain⟨t,ht,rfl⟩:=List.mem_map.1 hq;exact J3 (List.all_eq_true.1 hro.2 t ht)
end Go.Proofs.Fl
namespace Go.Proofs.Fl
open Go.RowKit Go.Proofs.Dig
attribute [local irreducible] IntKind.wrap aW bc bj bm
def QG{q:Rat}(h:Reg.Hb 14 q):(eX q).length<=12:=by
 obtain⟨h1,h2⟩:=h;have l1:=vM (n:=q.num.natAbs) (w:=5) (by omega);have l2:=vM (n:=q.den) (w:=5) (by omega);have l3:(eE q.num).length<=6:=by
  unfold eE;rw[bg];split<;>simp<;>omega
 unfold eX;split
 . omega
 rw[bg,bg];simp;omega
def IR:∀{p:List Rat},(∀x∈p,Reg.Hb 14 x)->(b9 p).length<=13*p.length
 | [],_=>ba _
 |x::p,h=>by
  have h1:=QG (h x (by simp));have h2:=IR (p:=p) fun y hy=>h y (by simp[hy]);have e:b9 (x::p)=(eX x ++ [32])++b9 p:=rfl;rw[e,bg,bg,aY,aY,oF];omega
end Go.Proofs.Fl
namespace Go.Proofs.En
open Go.RowKit Go.Proofs.Fl Go.Proofs.Dig
attribute [local irreducible] IntKind.wrap aW bc bj bm SW c7 CallOk To Tr ct
open Go.Proofs.Reg
open Go.Proofs.Pt
def Fa(n q:Nat)(s:Int):Rat:=gN n (q-s.toNat)
def sb(n q:Nat):Nat:=max n (q+1-n)
def Jq{α U:Type}{l:List α}{f g:α->List U}(h:∀a∈l,f a=g a):l.flatMap f=l.flatMap g:=by
 rw[List.flatMap_def,List.flatMap_def,jI h]
def Cj(R:List Cl)(n q:Nat):cV R (g9 n q)=nA R (Fa n q) (n7 n q (sb n q)):=by
 unfold cV g9 jy nA n7 sb;rw[List.flatMap_assoc,List.flatMap_assoc];refine Jq fun i _=>?_;unfold lf;rw[Bi];refine Jq fun l hl=>?_;have:=(mU.1 hl).2.2;show ft (gN n (q-(max n (q+1-n)+i))) (fK R l)=ft (gN n (q-(Reg.sumI l).toNat)) (fK R l);rw[this,mL]
def I1(R:List Cl){n q m:Nat}(hq:n<=q):gM R n q (dQ m q n)=nA R (Fa n q) (wL m q n (sb n q)):=by
 unfold gM nA wL;congr 1;apply List.filter_congr;intro l hl;obtain⟨h1,h2,_⟩:=oU.1 hl;have key:∀l:List Int,(∀x∈l,1<=x)->(l.length:Int)<=Reg.sumI l:=by
  intro l;induction l with
  |nil=>intro _;exact uM _
  |cons a l ih=>
   intro h;have a1:=h a (by simp);have a2:=ih fun x hx=>h x (dC _ hx);show((l.length+1:Nat):Int)<=a+Reg.sumI l;omega
 have h3:=key l fun x hx=>(h2 x hx).1;unfold sb;simp only[decide_eq_decide];omega
def qY{R:List Cl}{j n q:Nat}(hp:SpOk R j n q){x:List Rat×Rat}(hx:x∈cV R (g9 n q)):x.1.length=n/\Hb (n*j+7) x.2/\∀y∈x.1,Hb j y:=by
 unfold cV at hx;obtain⟨⟨l,f⟩,hy,hx⟩:=List.mem_flatMap.1 hx;obtain⟨s,s1,s2,s3,s4⟩:=vN hy;obtain⟨q1,q2,q3⟩:=mU.1 s4;have q1:l.length=n:=q1;have s5:f=gN n (q-s):=s3;unfold ft at hx;obtain⟨z,hz,rfl⟩:=List.mem_map.1 hx;have h1:=hp.n1;cases l with
 |nil=>simp at q1;omega
 |cons i l=>
  obtain⟨_,h2⟩:=CB hp.hR (i:=i) (l:=l);obtain⟨a,b,c⟩:=h2 z hz;simp only[aY] at q1;rw[q1] at a b;refine⟨a,b.mul ?_,c⟩;show Hb 7 f;rw[s5];refine Dw hp.n4 ?_;have:=hp.qm;have:=hp.R4;have:sb n q<=s:=s1;unfold sb at this;omega
def Ip{R:List Cl}{j n q:Nat}(hp:SpOk R j n q)(h3:n<=3):(cV R (g9 n q)).length<=7500:=by
 have key:∀{acc:List Lf},(∀x∈acc,x.1.length<=3)->eZ R acc<=125*acc.length:=by
  intro acc;induction acc with
  |nil=>intro _;exact ba _
  |cons x l ih=>
   intro h;have h1:=zp hp.hR x.1;have h2:5^x.1.length<=5^3:=co (by omega) (h x (by simp));have h3:(5:Nat)^3=125:=rfl;have h4:=ih fun y hy=>h y (by simp[hy]);rw[eZ,aY];omega
 have hmem:∀x∈g9 n q,x.1.length=n:=fun x hx=>by
  obtain⟨s,_,_,_,h⟩:=vN hx;exact(mU.1 h).1
 have n1:=hp.n1;have n4:=hp.n4;have nq:=hp.nq;have qm:=hp.qm;have R4:=hp.R4;rw[Ci fun x hx e=>by have:=hmem x hx;rw[e] at this;simp at this;omega];have h1:=key fun x hx=>by rw[hmem x hx];exact h3
 have h2:=C2 (q:=q) (lo:=max n (q+1-n)) n4 (t:=q+1-max n (q+1-n)) (by omega);have h2:(g9 n q).length<=20*(q+1-max n (q+1-n)):=h2;omega
def Xd{R:List Cl}{n q:Nat}(hp:SpOk R 14 n q)(hl:(cV R (g9 n q)).length<=2000):Ep.MgOk n (cV R (g9 n q)):=by
 have n1:=hp.n1;have n4:=hp.n4;refine⟨fun x hx=>?_,hp.n1,by omega,fun x hx=>?_,fun i hi o ho=>?_,by omega⟩
 . obtain⟨a,b,c⟩:=qY hp hx;have h1:=Fl.IR c;exact⟨a,by omega,fun y hy=>by have:=wz (c y hy);omega,by omega,by omega⟩
 . obtain⟨a,b,c⟩:=qY hp hx;have:=wz b;omega
 have h1:=UD (f:=(cV R (g9 n q)).take i) (j:=n*14+7) (fun t ht=>(qY hp (dY ht)).2.1) o ho;have h2:=wz h1;have h3:((cV R (g9 n q)).take i).length*(n*14+7+1)<=2000*64:=eT (by rw[bG];omega) (by omega);omega
def Xb{R:List Cl}{n q:Nat}(hp:SpOk R 14 n q)(h3:n<=3):MrOk n 63 (gM R n q (dQ R.length q n))/\fw (gM R n q (dQ R.length q n))=fw (cV R (g9 n q))/\(gM R n q (dQ R.length q n)).length=(cV R (g9 n q)).length:=by
 have n1:=hp.n1;have n4:=hp.n4;have hm:=Ix (R:=R) (f:=Fa n q) (Hm (m:=R.length) (lo:=sb n q) hp.n1 hp.qm);rw[<-Cj,<-I1 R hp.nq] at hm;refine⟨⟨?_,by omega,fun x hx=>?_,fun x hx=>?_,by omega⟩,?_,hm.length_eq.symm⟩
 . rw[<-hm.length_eq];have:=Ip hp h3;omega
 . obtain⟨a,b,c⟩:=qY hp (hm.mem_iff.2 hx);exact⟨a,fun y hy=>by have:=ob (c y hy);omega⟩
 . obtain⟨a,b,c⟩:=qY hp (hm.mem_iff.2 hx);exact b.mono (by omega)
 rw[I1 R hp.nq,Cj];refine(Pm (d:=n) hp.n1 hp.qm fun t ht=>?_).symm;rw[<-Cj] at ht;exact(qY hp ht).1
def RR{J:Keep}(L:LibI J){n:Int}{c:Cl}(hl:c.length<2^40)(hp:∀x∈c,x.1.length<2^40/\(∀y∈x.1,rl y<2^34)/\rl x.2<2^34):Go.Proofs.Fl.C J 10 [eO n c,hU n c] (.bool true):=by
 rw[DG];unfold hU;have la:(((gL c).length:Nat):Int)=(c.length:Int):=by simp[gL]
 have lb:(((dK c).length:Nat):Int)=(c.length:Int):=by simp[dK]
 have c1:=Fl.IN L (a:=bt c) (by rw[aV];omega) (fun y hy=>by
  obtain⟨x,hx,rfl⟩:=List.mem_map.1 hy;exact(hp x hx).2.2)
 refine pS Tryz.func10 rfl rfl rfl rfl rfl ?_;repeat (first|(refine aG ?_)|((first|refine dX ?_|refine aM la ?_|refine aM lb ?_|refine aD c1 ?_);conv=>whnf)|(refine aJ ?_))
 refine cq (G:={ t:Nat // t<=c.length }) (fun t=>aR [(2,.w (.one (.ptr 0 0 0))),(3,.w (.one (.ptr 1 0 0))),(5,ae (di (t.1:Int)))] [(0,.mem 29 [.iv (di n),.iv (.sl (gL c)),.iv (.sl ((bt c).map qr))] false [(0,3)] 1),(1,eI n c)] 2) (fun t=>c.length-t.1) ⟨0,ba _⟩
  (Tr.tab [] [] ⟨.rn,.rn,.sm,aa⟩ ⟨.sm,.sm,aa⟩ rfl) ?_
 rintro⟨t,ht⟩;show SW (XS J) _ _ _ _ (aR [(2,.w (.one (.ptr 0 0 0))),(3,.w (.one (.ptr 1 0 0))),(5,ae (di (t:Int)))] [(0,.mem 29 [.iv (di n),.iv (.sl (gL c)),.iv (.sl ((bt c).map qr))] false [(0,3)] 1),(1,eI n c)] 2) _;by_cases h:t<c.length
 . obtain⟨⟨p,w⟩,hx⟩:∃x,c[t]?=some x:=⟨_,bi h⟩;have g1:(gL c)[t]?=some (.sl (p.map qr)):=by unfold gL;rw[bI,bI,hx];rfl
   have g2:=(rt hx).1;obtain⟨p1,p2,p3⟩:=hp _ (bN hx);have c2:=Fl.IN L (a:=p) (by have p1:p.length<2^40:=p1;omega) p2;repeat (first|(refine aG ?_)|((first|refine aM la ?_|refine aO (j:=t) ?_ rfl g1|refine aO (j:=t) ?_ rfl g2|refine aD c2 ?_);conv=>whnf)|(refine aJ ?_))
   exact⟨⟨t+1,h⟩,Tr.tab [] [] ⟨.rn,.rn,.sm,aa⟩ ⟨.sm,.sm,aa⟩ rfl,by dsimp only;omega⟩
 have e:t=c.length:=by omega
 subst e;repeat (first|(refine aG ?_)|(refine aM la ?_;conv=>whnf)|(refine aJ ?_))
 rfl
end Go.Proofs.En
namespace Go.Proofs.En
open Go.RowKit Go.Proofs.Fl Go.Proofs.Dig
attribute [local irreducible] IntKind.wrap aW bc bj bm SW c7 CallOk To Tr ct
open Go.Proofs.Reg
open Go.Proofs.Pt
open Go.Proofs.Fl (Swm jG nH ii rowQ kX zC gQ Ly C5 DV DU Mt SwOk rE Num3)
def BD:∀l:List IV,(l.map EV.iv).flatMap bv=[]
 | []=>rfl
 |_::l=>BD l
def rG(g:Swm->IV)(l:List Swm):List EV:=((l.map g).flatMap IV.cells).map .iv
def VF(g:Swm->IV)(a b:List Swm):rG g (a++b)=rG g a++rG g b:=by
 unfold rG;rw[dD,eV,dD]
structure G3(g:Swm->IV):Prop where
 c:∀x,(g x).cells.length=3
 t:∀x,(g x).isTup=false
def vY{g:Swm->IV}(hg:G3 g):∀l,(rG g l).length=l.length*3
 | []=>rfl
 |x::l=>by
  have e:rG g (x::l)=(g x).cells.map .iv++rG g l:=by unfold rG;rw[aZ,cO,dD]
  rw[e,bg,aV,hg.c,vY hg l,aY,bQ];omega
def ED{g:Swm->IV}(hg:G3 g):∀l:List Swm,b7 3 (l.map g)=true
 | []=>rfl
 |x::l=>by
  have:=ED hg l;unfold b7 at this ⊢;rw[aZ,dl,this,hg.c,hg.t];rfl
def Fv(i:Nat):List Swm->EV
 | []=>.iv (.nil 3)
 |_::a=>.slc i 0 0 (a.length+1) (.fin 3)
def xa(e:TypeId)(g:Swm->IV)(acc:List Swm):EO:=match acc with
 | []=>.mem e [] false [] 0
 |_::a=>.mem e (rG g acc) false [(0,(a.length+1)*3)] 1
def oS{e:TypeId}{g:Swm->IV}{acc:List Swm}:fR (xa e g acc):=by
 cases acc with
 |nil=>exact(rfl:([]:List EV).flatMap bv=[])
 |cons x l=>exact BD _
def pl{i:Nat}{z x:Swm}{a:List Swm}:ES.w (.one (.slc i 0 0 (a.length+1+1) (.fin 3)))=.w (.one (Fv i ((z::a) ++ [x]))):=by
 show _=ES.w (.one (.slc i 0 0 ((a ++ [x]).length+1) (.fin 3)));rw[ra]
def pG{r:List (Nat×Nat)}{m:List (Nat×EO)}{X:Option EO}{i e:Nat}{g:Swm->IV}(hg:G3 g){z x:Swm}{a:List Swm}{vs:List (Nat×Nat)}{c q:Nat}(hi:gf [(0,.one 1),(1,.one 1)] i=some (.one 1):=by exact rfl)(h:X=some (.mem e ((rG g (z::a)).take ((a.length+1)*3)++(g x).cells.map .iv) false ((1,q)::vs) c):=by exact rfl)(hq:(a.length+2)*3<=q:=by omega) :
 BoxT r [(0,.one 1),(1,.one 1)] m i X (xa e g ((z::a) ++ [x])):=by
 have e1:xa e g ((z::a) ++ [x])=.mem e (rG g ((z::a) ++ [x])) false [(0,(a.length+2)*3)] 1:=by
  show EO.mem e _ false [(0,((a ++ [x]).length+1)*3)] 1=_;rw[ra]
 rw[e1];refine .ver hi h (gD _ _ _) hq ?_ ?_ (BD _)
 . rw[vY hg];simp
 rw[ay (i:=(a.length+1)*3) (by rw[vY hg];exact ah _),VF];congr 2;unfold rG;simp
def uD:G3 jG:=⟨fun _=>rfl,fun _=>rfl⟩
def uC:G3 nH:=⟨fun _=>rfl,fun _=>rfl⟩
noncomputable def vF(x:Swm):Bool:=rE x.n (x.at_.map fun r=>r.map fun y=>rr y.q) (x.ws.map fun y=>rr y.q)
noncomputable def fX(x:Swm):Bool:=!vF x || !decide (x.n=1)
noncomputable def lwS(l:List Swm)(n q:Int)(acc:List Swm)(bd:Bool)(k:Nat):SS:=aR [(0,ae (.sl (l.map Swm.iv))),(1,ae (di n)),(2,ae (di q)),(7,.w (.one (Fv 0 acc))),(8,.w (.one (Fv 1 acc))),(9,ae (.bool bd)),(10,ae (di (k:Int)))]
 [(0,xa 29 jG acc),(1,xa 33 nH acc)] 2
def NL(g:Swm->IV)(l:List Swm):EV:=match l with
 | []=>.iv (.nil 3)
 |x::l=>.iv (.sl ((x::l).map g))
noncomputable def ux(l:List Swm)(n q:Int)(bd:Bool):SS:=aR [(0,ae (.sl (l.map Swm.iv))),(1,ae (di n)),(2,ae (di q)),(7,.w (.one (NL jG l))),(8,.w (.one (NL nH l))),(9,ae (.bool bd))] [] 0
def VJ(J:Keep){n q:Int}:Go.Proofs.Fl.C J 7 [.nil 3,.int .i64 n,.int .i64 q] (.tup [qi,.int .i64 2]):=by
 refine lk Tryz.func7 rfl rfl rfl rfl 3 ?_;repeat (first|(refine aG ?_)|(refine cY ?_;conv=>whnf)|(refine aJ ?_))
 rfl
noncomputable def tg(x:Swm):Cg:=(x.n,x.at_.map (fun r=>r.map fun y=>qr y.q),x.ws.map fun y=>qr y.q)
def Mr(l:List Swm):l.map jG=(l.map tg).map iu:=by
 rw[cC];refine jI fun x _=>?_;show jG x=jl _ _ _;unfold jG jl tg;rw[cC];rfl
def Vv(x:Swm):iP (tg x)=fX x:=by
 unfold iP fX vF rF rE tg;dsimp only;have e1:(x.at_.map fun r=>r.map fun y=>qr y.q).any (jg x.n)=x.at_.any fun r=>!decide ((r.length:Int)=x.n):=by
  rw[List.any_map];congr 1;funext r;show(!decide (((r.map fun y=>qr y.q).length:Int)=x.n))=_;rw[aV]
 have e2:(x.at_.map fun r=>r.map fun y=>rr y.q).any (fun r=>!decide ((r.length:Int)=x.n))=x.at_.any fun r=>!decide ((r.length:Int)=x.n):=by
  rw[List.any_map];congr 1;funext r;show(!decide (((r.map fun y=>rr y.q).length:Int)=x.n))=_;rw[aV]
 rw[e1,e2];simp only[aV];by_cases h1:1<=x.n<;>by_cases h2:x.n<=4<;>simp[h1,h2,Bool.and_comm]
def Lw(l:List Swm):(l.map tg).any iP=l.any fX:=by
 rw[List.any_map];congr 1;funext x;exact Vv x
def DT{x:Swm}(hok:ii x 5=true)(hb:fX x=false):jG x=eO 1 (gQ x)/\nH x=hU 1 (gQ x)/\(gQ x).length<=5/\∀z∈gQ x,z.1.length=1/\Hb 14 z.2/\∀y∈z.1,Hb 14 y:=by
 unfold fX at hb;simp only[Om,Bool.not_eq_false',ff] at hb;obtain⟨b1,b2⟩:=hb;have hok6:ii x 6=true:=by
  unfold ii at hok ⊢;simp only[aH,ff] at hok ⊢;exact⟨hok.1,by omega,by omega,hok.2.2.2⟩
 obtain⟨k,hk,hs⟩:=Mt hok6 b1;have hn:=hs.n;have hw:=hs.w;have hl:=C5 hw;have h5:x.at_.length<=5:=by
  unfold ii at hok;simp only[aH,ff] at hok;exact hok.2.1
 refine⟨by rw[Ly hw,b2],?_,by omega,fun z hz=>?_⟩
 .
  unfold nH hU dK bt;have e1:((gQ x).map fun z=>z.1.map rr).map IV.sl=x.at_.map kX:=by
   rw[cC];have:=aL (List.map fun r:List Rat=>IV.sl (r.map rr)) (DV hw);rw[cC,cC] at this;refine Eq.trans this ?_;refine jI fun r _=>?_;show IV.sl ((r.map Num3.q).map rr)=kX r;unfold kX;rw[cC];rfl
  have e2:((gQ x).map fun z=>z.2).map rr=x.ws.map fun y=>rr y.q:=by
   rw[DU hw,cC];rfl
  rw[e1,e2,b2]
 obtain⟨a,b,c⟩:=hs.c.p z hz;exact⟨by omega,c,b⟩
attribute [local irreducible] kV
def W7{J:Keep}(B:Base J)(L:LibI J){l:List Swm}{n q:Int}(hn : -9223372036854775808<=n/\n<=9223372036854775807)(hq : -9223372036854775808<=q/\q<=9223372036854775807)(hl:l.length<2^62)(hx:∀x∈l,x.Ok):Go.Proofs.Fl.C J 3 [.sl (l.map Swm.iv),.int .i64 n,.int .i64 q] (.bool true):=by
 have c0:Go.Proofs.Fl.C J 4 [] (.bool true):=Ry L;have lls:(((l.map Swm.iv).length:Nat):Int)=(l.length:Int):=by simp
 refine pS Tryz.func3 rfl rfl rfl rfl rfl ?_;repeat (first|(refine rb (G:=PLift (l.length<=4/\n≠4)) (x:=.seq (.region 1 _ _) _) (fun _=>aR [(0,ae (.sl (l.map Swm.iv))),(1,ae (di n)),(2,ae (di q))] [] 0) ?_ ?_)|(refine SW.RS ?_;conv=>whnf))
 .
  unfold kV;by_cases h4:l.length>4
  . repeat (first|(refine aG ?_)|(refine SW.condT rfl ?_)|((first|refine cY ?_|refine aM lls ?_|refine aD c0 ?_|refine yT ?_);conv=>whnf))
    rfl
  by_cases hn4:n=4
  . subst hn4;repeat (first|(refine aG ?_)|(refine SW.condT rfl ?_)|((first|refine cY ?_|refine dX ?_|refine aM lls ?_|refine aD c0 ?_);conv=>whnf)|(refine aJ ?_))
    rfl
  by_cases hn3:n>3
  . repeat (first|(refine aG ?_)|(refine SW.condF rfl ?_)|((first|refine cY ?_|refine dX ?_|refine aM lls ?_);conv=>whnf)|(refine aJ ?_))
    exact⟨⟨by omega,hn4⟩,Tr.tab [] [] ⟨.sm,.sm,.sm,aa⟩ trivial rfl⟩
  repeat (first|(refine aG ?_)|(refine SW.condF rfl ?_)|((first|refine dX ?_|refine aM lls ?_|refine yF ?_);conv=>whnf))
  exact⟨⟨by omega,hn4⟩,Tr.tab [] [] ⟨.sm,.sm,.sm,aa⟩ trivial rfl⟩
 rintro⟨h4,hn4⟩;obtain⟨bd,hbd0⟩:∃b,(decide (l.length=0)||l.any fX)=b:=⟨_,rfl⟩;obtain⟨b0,hb0⟩:∃b,decide (l.length=0)=b:=⟨_,rfl⟩;have heq0:(((l.length:Nat):Int)==0)=b0:=by
  rw[<-hb0];by_cases h:l.length=0
  . rw[h];rfl
  rw[bE h];exact beq_eq_false_iff_ne.2 (by omega)
 repeat (first|(refine rb (G:=PLift (∀x∈l,ii x 5=true)) (x:=.seq (.region 6 _ _) _) (fun _=>ux l n q bd) ?_ ?_)|((first|refine SW.RS ?_|refine aM lls ?_|refine lB ?_ heq0|refine And.intro (by decide) ?_);conv=>whnf))
 . as_aux_lemma=>
  unfold kV;repeat (first|(refine SW.RS ?_;conv=>whnf)|(refine SW.block ?_))
  refine cq (G:={ k:Nat // k<=l.length/\∀i,i<k->∀y,l[i]?=some y->ii y 5=true }) (fun k=>lwS l n q (l.take k.1) (b0||(l.take k.1).any fX) k.1) (fun k=>l.length-k.1) ⟨0,ba _,fun i hi=>absurd hi (Nat.not_lt_zero i)⟩
   (Tr.tab [(0,1000),(1,1001)] [] ⟨.sm,.sm,.sm,.sm,.sm,.sm (by show ae (.bool b0)=ae (.bool (b0||false));rw[AZ]) rfl,.sm,aa⟩ ⟨.ph rfl,.ph rfl,aa⟩ rfl) ?_
  rintro⟨k,hk,hall⟩;obtain⟨acc,hacc⟩:∃a,l.take k=a:=⟨_,rfl⟩;obtain⟨bk,hbk⟩:∃b,(b0||(l.take k).any fX)=b:=⟨_,rfl⟩;show SW (XS J) _ _ _ _ (lwS l n q (l.take k) (b0||(l.take k).any fX) k) _;rw[hbk,hacc];have hal:acc.length=k:=by rw[<-hacc,bG];omega
  by_cases h:k<l.length
  . as_aux_lemma=>
   obtain⟨x,hxl⟩:∃x,l[k]?=some x:=⟨_,bi h⟩;have gx:(l.map Swm.iv)[k]?=some x.iv:=by rw[bI,hxl];rfl
   have hxo:=hx x (bN hxl);have c1:=Fl.VP J (most:=5) hxo (by omega);unfold Swm.iv at gx c1;cases hok:ii x 5 with
   |false=>
    rw[hok,bh,bh] at c1;unfold lwS;cases acc with
    |nil=>
     repeat (first|(refine aG ?_)|((first|refine aM lls ?_|refine aD c0 ?_|refine aD c1 ?_|refine aO (j:=k) ?_ rfl gx);conv=>whnf)|(refine aJ ?_))
     rfl
    |cons z a=>
     repeat (first|(refine aG ?_)|((first|refine aM lls ?_|refine aD c0 ?_|refine aD c1 ?_|refine aO (j:=k) ?_ rfl gx);conv=>whnf)|(refine aJ ?_))
     rfl
   |true=> as_aux_lemma=>
    rw[hok,al,al] at c1;have hreach:reachBytes=140737488351232:=rfl;have x1:=hxo.l;have x2:=hxo.r;have x3:=hxo.w.1;have hok2:=hok;unfold ii at hok2;simp only[aH,ff] at hok2;have c2:=Fl.VN J (n:=x.n) (f:=x.at_.map fun r=>r.map fun y=>rr y.q) (w:=x.ws.map fun y=>rr y.q) (by rw[aV];omega) (fun r hr=>by
     obtain⟨r0,hr0,rfl⟩:=List.mem_map.1 hr;have:=List.all_eq_true.1 hok2.1 r0 hr0;unfold Fl.jZ at this;simp only[aH,ff] at this;rw[aV];omega) (by rw[aV];omega)
    rw[cC] at c2;have c2:Go.Proofs.Fl.C J 6 [.agg [.int .i64 x.n,.sl (x.at_.map kX),.sl (x.ws.map fun y=>rr y.q)]] (.bool (vF x)):=c2;have hall':∀i,i<k+1->∀y,l[i]?=some y->ii y 5=true:=fun i hi y hy=>by
     by_cases e:i=k
     . subst e;rw[hxl] at hy;cases hy;exact hok
     exact hall i (by omega) y hy
    have hnew:l.take (k+1)=acc ++ [x]:=by rw[dO,hxl,hacc];rfl
    have hbd:(b0||(l.take (k+1)).any fX)=(bk||(!vF x || !decide (x.n=1))):=by
     rw[<-hbk,hnew,hacc,List.any_append];simp[fX,Bool.or_assoc]
    unfold lwS;cases bk with
    |true=> as_aux_lemma=>
     cases acc with
     |nil=>
      repeat (first|(refine aG ?_)|((first|refine cY ?_|refine aM lls ?_|refine aD c1 ?_|refine aO (j:=k) ?_ rfl gx);conv=>whnf)|(refine aJ ?_))
      refine⟨⟨k+1,h,hall'⟩,?_,by dsimp only;omega⟩;show Tr _ _ (lwS l n q (l.take (k+1)) (b0||(l.take (k+1)).any fX) (k+1));rw[hbd,hnew];exact Tr.tab [(0,5),(1,7)] [] ⟨.sm,.sm,.sm,.rn,.rn,.sm,.sm,aa⟩ ⟨.sm rfl rfl oS,.sm rfl rfl oS,aa⟩ rfl
     |cons z a=>
      simp only[aY] at hal;repeat (first|(refine aG ?_)|((first|refine aM lls ?_|refine aD c1 ?_|refine aO (j:=k) ?_ rfl gx);conv=>whnf)|(refine aJ ?_))
      refine bK (g:=5) (b:=1) (ch (p:=(a.length+1)*3) (sz:=3) rfl rfl (bn _ _) rfl (by omega) (by omega) (by omega) (by show _*56<=_;omega) rfl rfl rfl rfl rfl rfl) (by show 5<5+1;decide) ?_;conv=>whnf
      repeat ((refine cz ?_;conv=>whnf))
      refine bK (g:=7) (b:=1) (ch (p:=(a.length+1)*3) (sz:=3) rfl rfl (bn _ _) rfl (by omega) (by omega) (by omega) (by show _*56<=_;omega) rfl rfl rfl rfl rfl rfl) (by show 7<7+1;decide) ?_;conv=>whnf
      repeat (first|((first|refine SW.R ?_|refine cY ?_);conv=>whnf)|(refine aJ ?_))
      refine⟨⟨k+1,h,hall'⟩,?_,by dsimp only;omega⟩;show Tr _ _ (lwS l n q (l.take (k+1)) (b0||(l.take (k+1)).any fX) (k+1));rw[hbd,hnew];exact Tr.tab [] [(0,.one 1),(1,.one 1)] ⟨.sm,.sm,.sm,.rn pl,.rn pl,.sm,.sm,aa⟩ ⟨pG uD,pG uC,aa⟩ rfl
    |false=> as_aux_lemma=>
     cases hv:vF x with
     |false=> as_aux_lemma=>
      rw[hv] at c2 hbd;cases acc with
      |nil=>
       repeat (first|(refine aG ?_)|((first|refine cY ?_|refine dX ?_|refine aM lls ?_|refine aD c1 ?_|refine aD c2 ?_|refine aO (j:=k) ?_ rfl gx);conv=>whnf)|(refine aJ ?_))
       refine⟨⟨k+1,h,hall'⟩,?_,by dsimp only;omega⟩;show Tr _ _ (lwS l n q (l.take (k+1)) (b0||(l.take (k+1)).any fX) (k+1));rw[hbd,hnew];exact Tr.tab [(0,5),(1,7)] [] ⟨.sm,.sm,.sm,.rn,.rn,.sm,.sm,aa⟩ ⟨.sm rfl rfl oS,.sm rfl rfl oS,aa⟩ rfl
      |cons z a=> as_aux_lemma=>
       simp only[aY] at hal;repeat (first|(refine aG ?_)|((first|refine aM lls ?_|refine aD c1 ?_|refine aO (j:=k) ?_ rfl gx);conv=>whnf)|(refine aJ ?_))
       refine bK (g:=5) (b:=1) (ch (p:=(a.length+1)*3) (sz:=3) rfl rfl (bn _ _) rfl (by omega) (by omega) (by omega) (by show _*56<=_;omega) rfl rfl rfl rfl rfl rfl) (by show 5<5+1;decide) ?_;conv=>whnf
       repeat ((refine cz ?_;conv=>whnf))
       refine bK (g:=7) (b:=1) (ch (p:=(a.length+1)*3) (sz:=3) rfl rfl (bn _ _) rfl (by omega) (by omega) (by omega) (by show _*56<=_;omega) rfl rfl rfl rfl rfl rfl) (by show 7<7+1;decide) ?_;conv=>whnf
       repeat (first|((first|refine SW.R ?_|refine cY ?_|refine dX ?_|refine aD c2 ?_);conv=>whnf)|(refine aJ ?_))
       refine⟨⟨k+1,h,hall'⟩,?_,by dsimp only;omega⟩;show Tr _ _ (lwS l n q (l.take (k+1)) (b0||(l.take (k+1)).any fX) (k+1));rw[hbd,hnew];exact Tr.tab [] [(0,.one 1),(1,.one 1)] ⟨.sm,.sm,.sm,.rn pl,.rn pl,.sm,.sm,aa⟩ ⟨pG uD,pG uC,aa⟩ rfl
     |true=> as_aux_lemma=>
      rw[hv] at c2 hbd;by_cases hn1:x.n=1
      . as_aux_lemma=>
       rw[bB hn1] at hbd;cases acc with
       |nil=>
        repeat (first|(refine aG ?_)|((first|refine dX ?_|refine aM lls ?_|refine aD c1 ?_|refine aD c2 ?_|refine aO (j:=k) ?_ rfl gx);conv=>whnf)|(refine aJ ?_))
        refine⟨⟨k+1,h,hall'⟩,?_,by dsimp only;omega⟩;show Tr _ _ (lwS l n q (l.take (k+1)) (b0||(l.take (k+1)).any fX) (k+1));rw[hbd,hnew];exact Tr.tab [(0,5),(1,7)] [] ⟨.sm,.sm,.sm,.rn,.rn,.sm,.sm,aa⟩ ⟨.sm rfl rfl oS,.sm rfl rfl oS,aa⟩ rfl
       |cons z a=>
        simp only[aY] at hal;repeat (first|(refine aG ?_)|((first|refine aM lls ?_|refine aD c1 ?_|refine aO (j:=k) ?_ rfl gx);conv=>whnf)|(refine aJ ?_))
        refine bK (g:=5) (b:=1) (ch (p:=(a.length+1)*3) (sz:=3) rfl rfl (bn _ _) rfl (by omega) (by omega) (by omega) (by show _*56<=_;omega) rfl rfl rfl rfl rfl rfl) (by show 5<5+1;decide) ?_;conv=>whnf
        repeat ((refine cz ?_;conv=>whnf))
        refine bK (g:=7) (b:=1) (ch (p:=(a.length+1)*3) (sz:=3) rfl rfl (bn _ _) rfl (by omega) (by omega) (by omega) (by show _*56<=_;omega) rfl rfl rfl rfl rfl rfl) (by show 7<7+1;decide) ?_;conv=>whnf
        repeat (first|((first|refine SW.R ?_|refine dX ?_|refine aD c2 ?_);conv=>whnf)|(refine aJ ?_))
        refine⟨⟨k+1,h,hall'⟩,?_,by dsimp only;omega⟩;show Tr _ _ (lwS l n q (l.take (k+1)) (b0||(l.take (k+1)).any fX) (k+1));rw[hbd,hnew];exact Tr.tab [] [(0,.one 1),(1,.one 1)] ⟨.sm,.sm,.sm,.rn pl,.rn pl,.sm,.sm,aa⟩ ⟨pG uD,pG uC,aa⟩ rfl
      rw[bE hn1] at hbd;cases acc with
      |nil=>
       repeat (first|(refine aG ?_)|((first|refine dX ?_|refine aM lls ?_|refine aD c1 ?_|refine aD c2 ?_|refine aO (j:=k) ?_ rfl gx);conv=>whnf)|(refine aJ ?_))
       refine⟨⟨k+1,h,hall'⟩,?_,by dsimp only;omega⟩;show Tr _ _ (lwS l n q (l.take (k+1)) (b0||(l.take (k+1)).any fX) (k+1));rw[hbd,hnew];exact Tr.tab [(0,5),(1,7)] [] ⟨.sm,.sm,.sm,.rn,.rn,.sm,.sm,aa⟩ ⟨.sm rfl rfl oS,.sm rfl rfl oS,aa⟩ rfl
      |cons z a=>
       simp only[aY] at hal;repeat (first|(refine aG ?_)|((first|refine aM lls ?_|refine aD c1 ?_|refine aO (j:=k) ?_ rfl gx);conv=>whnf)|(refine aJ ?_))
       refine bK (g:=5) (b:=1) (ch (p:=(a.length+1)*3) (sz:=3) rfl rfl (bn _ _) rfl (by omega) (by omega) (by omega) (by show _*56<=_;omega) rfl rfl rfl rfl rfl rfl) (by show 5<5+1;decide) ?_;conv=>whnf
       repeat ((refine cz ?_;conv=>whnf))
       refine bK (g:=7) (b:=1) (ch (p:=(a.length+1)*3) (sz:=3) rfl rfl (bn _ _) rfl (by omega) (by omega) (by omega) (by show _*56<=_;omega) rfl rfl rfl rfl rfl rfl) (by show 7<7+1;decide) ?_;conv=>whnf
       repeat (first|((first|refine SW.R ?_|refine dX ?_|refine aD c2 ?_);conv=>whnf)|(refine aJ ?_))
       refine⟨⟨k+1,h,hall'⟩,?_,by dsimp only;omega⟩;show Tr _ _ (lwS l n q (l.take (k+1)) (b0||(l.take (k+1)).any fX) (k+1));rw[hbd,hnew];exact Tr.tab [] [(0,.one 1),(1,.one 1)] ⟨.sm,.sm,.sm,.rn pl,.rn pl,.sm,.sm,aa⟩ ⟨pG uD,pG uC,aa⟩ rfl
  have e:k=l.length:=by omega
  subst e;rw[cN] at hacc hbk;rw[<-hb0,hbd0] at hbk;subst hacc hbk;have hall':∀x∈l,ii x 5=true:=fun x hxm=>by
   obtain⟨i,hi⟩:=List.mem_iff_getElem?.1 hxm;exact hall i (List.getElem?_eq_some_iff.1 hi).1 x hi
  unfold lwS;cases l with
  |nil=>
   repeat (first|(refine aG ?_)|((first|refine aM lls ?_|refine yF ?_);conv=>whnf))
   exact⟨⟨hall'⟩,Tr.tab [] [] ⟨.sm,.sm,.sm,.sm,.sm,.sm,aa⟩ trivial rfl⟩
  |cons z a=>
   repeat (first|(refine aG ?_)|((first|refine aM lls ?_|refine yF ?_);conv=>whnf))
   exact⟨⟨hall'⟩,(ge (g:=0) (u:=0) (n:=a.length+1) (es:=(z::a).map jG) [7] [] (fq 3 rfl (bn _ _) (by simp) (ED uD _) (ah _) (ay (by show(rG jG (z::a)).length<=_;rw[vY uD];exact ah _))) ⟨⟨_,rfl⟩,aa⟩ trivial).trans
    ((ge (g:=1) (u:=0) (n:=a.length+1) (es:=(z::a).map nH) [8] [] (fq 3 rfl (bn _ _) (by simp) (ED uC _) (ah _) (ay (by show(rG nH (z::a)).length<=_;rw[vY uC];exact ah _))) ⟨⟨_,rfl⟩,aa⟩ trivial).trans
      (Tr.tab [] [] ⟨.sm,.sm,.sm,.sm,.sm,.sm,aa⟩ trivial rfl))⟩
 rintro⟨hall⟩;have c4:=Fl.Tz J;cases l with
 |nil=>
  have e:bd=true:=hbd0.symm;subst e;have c3:=VJ J (n:=n) (q:=q);unfold ux qi at *;repeat (first|(refine aG ?_)|((first|refine cY ?_|refine aD c0 ?_|refine aD c3 ?_|refine aD c4 ?_|refine And.intro rfl (lB (b:=true) ?_ (beq_iff_eq.2 (by omega))));conv=>whnf)|(refine aJ ?_))
  rfl
 |cons z a=> as_aux_lemma=>
  have hbd1:(z::a).any fX=bd:=hbd0;have lq:((((z::a).map Swm.iv).length:Nat):Int)=((z::a).length:Int):=lls;have hh1:((z::a).map tg).length<2^50:=by rw[aV];omega
  have hh2:∀c∈(z::a).map tg,c.2.1.length<2^60:=fun c hc=>by
   obtain⟨x,hxm,rfl⟩:=List.mem_map.1 hc;have:=(hx x hxm).l;have hreach:reachBytes=140737488351232:=rfl;show(x.at_.map _).length<_;rw[aV];omega
  have hh3:((z::a).map tg).length=(z::a).length:=aV ..;obtain⟨m,hm⟩:∃m,(z::a).length=m:=⟨_,rfl⟩;have hm1:1<=m:=by rw[<-hm];simp
  rw[hm] at h4 lq;cases bd with
  |true=>
   have c3:=VK J (n:=n) (q:=q) hh1 hh2 (.inr (by rw[Lw];exact hbd1));rw[<-Mr] at c3;unfold ux qi at *;repeat (first|(refine aG ?_)|((first|refine cY ?_|refine aD c0 ?_|refine aD c3 ?_|refine aD c4 ?_);conv=>whnf)|(refine aJ ?_))
   rfl
  |false=> as_aux_lemma=>
   by_cases hr:1<=n/\n<=4/\n<=q/\q+1<=n+m
   . as_aux_lemma=>
    obtain⟨R,hR⟩:∃R,(z::a).map gQ=R:=⟨_,rfl⟩;have hbx:∀x∈z::a,fX x=false:=fun x hxm=>by
     have:=List.any_eq_false.1 hbd1 x hxm;simpa using this
    have eQ:IV.sl ((z::a).map jG)=iR R:=by
     unfold iR;rw[<-hR,cC];congr 1;exact jI fun x hxm=>(DT (hall x hxm) (hbx x hxm)).1
    have eR:IV.sl ((z::a).map nH)=ms R:=by
     unfold ms;rw[<-hR,cC];congr 1;exact jI fun x hxm=>(DT (hall x hxm) (hbx x hxm)).2.1
    have hRl:R.length=m:=by rw[<-hR,aV,hm]
    obtain⟨n',rfl⟩:=Gb (show 0<=n by omega);obtain⟨q',rfl⟩:=Gb (show 0<=q by omega);have hp:SpOk R 14 n' q':=⟨fun c hc=>by
     rw[<-hR] at hc;obtain⟨x,hxm,rfl⟩:=List.mem_map.1 hc;have:=DT (hall x hxm) (hbx x hxm);exact⟨this.2.2.1,this.2.2.2⟩,by decide,by omega,by omega,by omega,by omega,by omega⟩
    have h3:n'<=3:=by omega
    obtain⟨m1,m2,m3⟩:=Xb hp h3;have c3:=W6 B L hp (Xd hp);have c5:=W5 J hp m1;rw[m2,m3] at c5;rw[<-eQ] at c3;rw[<-eR] at c5;have hfew:=Ip hp h3;have hmem:=fun x hx=>qY hp (x:=x) hx;obtain⟨P,hP⟩:∃P,cV R (g9 n' q')=P:=⟨_,rfl⟩;rw[hP] at c3 c5 hfew hmem;obtain⟨G,hG⟩:∃G,fw P=G:=⟨_,rfl⟩;rw[hG] at c3 c5;by_cases hl2:P.length<=2000
    .
     rw[bB hl2,al] at c3;have hGl:G.length<=7500:=by
      rw[<-hG];have h1:=CK (f:=P) P.length (ah _);rw[cN] at h1;have h2:(fw P).length<=(fV P).length:=xo _ _;omega
     have c6:=RR L (n:=(n':Int)) (c:=G) (by omega) (fun x hxm=>by
      rw[<-hG] at hxm;have hxi:x∈fV P:=(List.mem_filter.1 hxm).1;obtain⟨y,hy,e⟩:=yk (f:=P) P.length x (by rw[cN];exact hxi);obtain⟨k1,k2,k3⟩:=hmem y hy;have hw:=ob (Vm (f:=P) (j:=n'*14+7) (fun t ht=>(hmem t ht).2.1) x hxm);have h5:P.length*(n'*14+7+1)<=7500*64:=eT hfew (by omega);refine⟨by rw[e,k1];omega,fun v hv=>?_,by omega⟩;rw[e] at hv;have:=ob (k3 v hv);omega)
     unfold ux hU at *;rw[DG] at c3 c6;repeat (first|(refine aG ?_)|((first|refine cY ?_|refine dX ?_|refine aD c0 ?_|refine aD c3 ?_|refine aD c5 ?_|refine aD c6 ?_|refine aM lq ?_);conv=>whnf)|(refine aJ ?_))
     rfl
    rw[bE hl2,bh] at c3;unfold ux hU qi at *;repeat (first|(refine aG ?_)|((first|refine cY ?_|refine dX ?_|refine aD c0 ?_|refine aD c3 ?_|refine aD c4 ?_|refine aD c5 ?_|refine aM lq ?_);conv=>whnf)|(refine aJ ?_))
    rfl
   have c3:=VI J hh1 hh2 (by simp) (by rw[Lw];exact hbd1) hq (by rw[hh3,hm];exact hr);rw[<-Mr] at c3;unfold ux qi at *;by_cases g1:n<1
   . repeat (first|(refine aG ?_)|((first|refine cY ?_|refine aD c0 ?_|refine aD c3 ?_|refine aD c4 ?_);conv=>whnf)|(refine aJ ?_))
     rfl
   by_cases g2:n>4
   . repeat (first|(refine aG ?_)|((first|refine cY ?_|refine dX ?_|refine aD c0 ?_|refine aD c3 ?_|refine aD c4 ?_);conv=>whnf)|(refine aJ ?_))
     rfl
   by_cases g3:q<n
   . repeat (first|(refine aG ?_)|((first|refine cY ?_|refine dX ?_|refine aD c0 ?_|refine aD c3 ?_|refine aD c4 ?_);conv=>whnf)|(refine aJ ?_))
     rfl
   have g4:q>n+m-1:=by omega
   repeat (first|(refine aG ?_)|((first|refine cY ?_|refine dX ?_|refine aD c0 ?_|refine aD c3 ?_|refine aD c4 ?_|refine aM lq ?_);conv=>whnf)|(refine aJ ?_))
   rfl
end Go.Proofs.En
