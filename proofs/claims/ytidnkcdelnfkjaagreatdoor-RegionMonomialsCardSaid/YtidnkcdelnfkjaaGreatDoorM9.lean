/-
  RegionMonomials: the monomials are the document's, or the error is, for every input; no condition.
-/
import Derived.Test.YtidnkcdelnfkjaaGreatDoorM8
import Derived.Test.YtidnkcdelnfkjaaGreatDoorTie
import Derived.Test.YtidnkcdelnfkjaaGreatDoorCards
import Derived.ChangeSame
import Derived.ChangeVars
import Derived.JoinedOf
import Derived.RowKit
import Derived.RowKitTokens
import Derived.LaidLaws
import Derived.LaidMore
import Derived.LaidSub
import Derived.Stop.Joined
import Derived.Lib.LaidTab
import Derived.Lib.LaidU8
import Derived.Lib.SmallJoins
import Derived.Carry
import Derived.SevenTiedAt
namespace Go.Proofs.En
open Go.RowKit Go.Proofs.Fl Go.Proofs.Dig
attribute [local irreducible] IntKind.wrap PureC MutC MakC IterC SW SWr CallOk To
noncomputable def wkC1:Code:=match Tryz.f18.body with|some c=>hdC (tlC (c))|none=>.skip
theorem wk1:runT eeW 100000 0 132 wkC1 [] [] 0 [(0,24),(1,22),(2,21),(3,6),(4,13),(5,20)] [(1,.w (.one (.ptr 0 0 0)))] [(0,.mem 31 [.iv (.int .i64 2),.iv (.nil 3),.slc 1 0 0 1 (.ex 1)] false [(0,3)] 1),(1,.mem 23 [.slc 2 0 0 3 (.ex 3)] false [(0,1)] 1),(2,.mem 42 [.slc 3 0 0 2 (.ex 2),.slc 4 0 0 2 (.ex 2),.slc 5 0 0 2 (.ex 2)] false [(0,3)] 1),(3,.mem 60 [.qc 0 1 0,.qc 0 1 1,.qc 0 1 2,.qc 0 1 0,.qc 0 1 1,.qc 0 1 2] false [(0,6)] 1),(4,.mem 60 [.qc 1 1 0,.qc 1 1 1,.qc 1 1 2,.qc 0 1 0,.qc 0 1 1,.qc 0 1 2] false [(0,6)] 1),(5,.mem 60 [.qc 0 1 0,.qc 0 1 1,.qc 0 1 2,.qc 1 1 0,.qc 1 1 1,.qc 1 1 2] false [(0,6)] 1)] 6=true:=by kernel_rfl
noncomputable def wkC2:Code:=match Tryz.f18.body with|some c=>hdC (tlC (tlC (c)))|none=>.skip
theorem wk2:runT eeW 100000 0 132 wkC2 [(1,.w (.one (.ptr 0 0 0)))] [(0,.mem 31 [.iv (.int .i64 2),.iv (.nil 3),.slc 1 0 0 1 (.ex 1)] false [(0,3)] 1),(1,.mem 23 [.slc 2 0 0 3 (.ex 3)] false [(0,1)] 1),(2,.mem 42 [.slc 3 0 0 2 (.ex 2),.slc 4 0 0 2 (.ex 2),.slc 5 0 0 2 (.ex 2)] false [(0,3)] 1),(3,.mem 60 [.qc 0 1 0,.qc 0 1 1,.qc 0 1 2,.qc 0 1 0,.qc 0 1 1,.qc 0 1 2] false [(0,6)] 1),(4,.mem 60 [.qc 1 1 0,.qc 1 1 1,.qc 1 1 2,.qc 0 1 0,.qc 0 1 1,.qc 0 1 2] false [(0,6)] 1),(5,.mem 60 [.qc 0 1 0,.qc 0 1 1,.qc 0 1 2,.qc 1 1 0,.qc 1 1 1,.qc 1 1 2] false [(0,6)] 1)] 6 [(0,15)] [(2,.w (.one (.ptr 0 0 0))),(3,.w (.one (.iv (.int .i64 0))))] [(0,.mem 60 [.qc 1 12 0,.qc 1 12 1,.qc 1 12 2] false [(0,3)] 1)] 1=true:=by kernel_rfl
noncomputable def wkC3:Code:=match Tryz.f18.body with|some c=>hdC (tlC (tlC (tlC (c))))|none=>.skip
theorem wk3:runT eeW 100000 0 132 wkC3 [(2,.w (.one (.ptr 0 0 0))),(3,.w (.one (.iv (.int .i64 0))))] [(0,.mem 60 [.qc 1 12 0,.qc 1 12 1,.qc 1 12 2] false [(0,3)] 1)] 1 [(0,0),(1,4)] [(2,.w (.one (.ptr 0 0 0))),(3,.w (.one (.iv (.int .i64 0)))),(4,.w (.one (.ptr 1 0 0)))] [(0,.mem 60 [.qc 1 12 0,.qc 1 12 1,.qc 1 12 2] false [(0,3)] 1),(1,.mem 60 [.qc 1 2 0,.qc 1 2 1,.qc 1 2 2] false [(0,3)] 1)] 2=true:=by kernel_rfl
noncomputable def wkC4:Code:=match Tryz.f18.body with|some c=>hdC (tlC (tlC (tlC (tlC (c)))))|none=>.skip
theorem wk4:runT eeW 100000 0 132 wkC4 [(2,.w (.one (.ptr 0 0 0))),(3,.w (.one (.iv (.int .i64 0)))),(4,.w (.one (.ptr 1 0 0)))] [(0,.mem 60 [.qc 1 12 0,.qc 1 12 1,.qc 1 12 2] false [(0,3)] 1),(1,.mem 60 [.qc 1 2 0,.qc 1 2 1,.qc 1 2 2] false [(0,3)] 1)] 2 [(0,0),(1,15),(2,7033),(3,7039),(4,7049),(5,7080),(6,7111)] [(2,.w (.one (.ptr 0 0 0))),(3,.w (.one (.iv (.int .i64 0)))),(6,.w (.one (.ptr 1 0 0))),(8,.w (.one (.iv (.int .i64 0))))] [(0,.mem 60 [.qc 1 12 0,.qc 1 12 1,.qc 1 12 2] false [(0,3)] 1),(1,.mem 103 [.iv (.int .i64 1),.slc 2 2 0 3 (.fin 1),.slc 3 2 0 3 (.fin 3)] false [(0,3)] 1),(2,.mem 42 [.slc 4 0 0 1 (.fin 3),.slc 5 0 0 1 (.fin 3),.slc 6 0 0 1 (.fin 3)] false [(2,3),(1,2),(0,1)] 3),(3,.mem 60 [.qc 1 6 0,.qc 1 6 1,.qc 1 6 2,.qc 2 3 0,.qc 2 3 1,.qc 2 3 2,.qc 1 6 0,.qc 1 6 1,.qc 1 6 2] false [(2,9),(1,6),(0,3)] 3),(4,.mem 60 [.qc 0 1 0,.qc 0 1 1,.qc 0 1 2] false [(0,3)] 1),(5,.mem 60 [.qc 1 2 0,.qc 1 2 1,.qc 1 2 2] false [(0,3)] 1),(6,.mem 60 [.qc 1 1 0,.qc 1 1 1,.qc 1 1 2] false [(0,3)] 1)] 7=true:=by kernel_rfl
noncomputable def wkC5:Code:=match Tryz.f18.body with|some c=>hdC (tlC (tlC (tlC (tlC (tlC (c))))))|none=>.skip
theorem wk5:runT eeW 100000 0 132 wkC5 [(2,.w (.one (.ptr 0 0 0))),(3,.w (.one (.iv (.int .i64 0)))),(6,.w (.one (.ptr 1 0 0))),(8,.w (.one (.iv (.int .i64 0))))] [(0,.mem 60 [.qc 1 12 0,.qc 1 12 1,.qc 1 12 2] false [(0,3)] 1),(1,.mem 103 [.iv (.int .i64 1),.slc 2 2 0 3 (.fin 1),.slc 3 2 0 3 (.fin 3)] false [(0,3)] 1),(2,.mem 42 [.slc 4 0 0 1 (.fin 3),.slc 5 0 0 1 (.fin 3),.slc 6 0 0 1 (.fin 3)] false [(2,3),(1,2),(0,1)] 3),(3,.mem 60 [.qc 1 6 0,.qc 1 6 1,.qc 1 6 2,.qc 2 3 0,.qc 2 3 1,.qc 2 3 2,.qc 1 6 0,.qc 1 6 1,.qc 1 6 2] false [(2,9),(1,6),(0,3)] 3),(4,.mem 60 [.qc 0 1 0,.qc 0 1 1,.qc 0 1 2] false [(0,3)] 1),(5,.mem 60 [.qc 1 2 0,.qc 1 2 1,.qc 1 2 2] false [(0,3)] 1),(6,.mem 60 [.qc 1 1 0,.qc 1 1 1,.qc 1 1 2] false [(0,3)] 1)] 7 [(0,0),(1,1),(2,4268),(3,2),(4,3),(5,4474),(6,4496),(7,4),(8,5),(9,6)] [(2,.w (.one (.ptr 0 0 0))),(3,.w (.one (.iv (.int .i64 0)))),(6,.w (.one (.ptr 1 0 0))),(8,.w (.one (.iv (.int .i64 0)))),(10,.w (.one (.slc 2 2 0 2 (.fin 4)))),(11,.w (.one (.iv (.int .i64 14))))] [(0,.mem 60 [.qc 1 12 0,.qc 1 12 1,.qc 1 12 2] false [(0,3)] 1),(1,.mem 103 [.iv (.int .i64 1),.slc 3 2 0 3 (.fin 1),.slc 4 2 0 3 (.fin 3)] false [(0,3)] 1),(2,.mem 66 [.slc 5 0 0 1 (.fin 1),.qc (-1) 1 0,.qc (-1) 1 1,.qc (-1) 1 2,.slc 6 0 0 1 (.fin 1),.qc 1 1 0,.qc 1 1 1,.qc 1 1 2,.iv (.nil 3),.qc 0 1 0,.qc 0 1 1,.qc 0 1 2] false [(2,12),(1,0),(0,0)] 3),(3,.mem 42 [.slc 7 0 0 1 (.fin 3),.slc 8 0 0 1 (.fin 3),.slc 9 0 0 1 (.fin 3)] false [(2,3),(1,2),(0,1)] 3),(4,.mem 60 [.qc 1 6 0,.qc 1 6 1,.qc 1 6 2,.qc 2 3 0,.qc 2 3 1,.qc 2 3 2,.qc 1 6 0,.qc 1 6 1,.qc 1 6 2] false [(2,9),(1,6),(0,3)] 3),(5,.mem 3 [.iv (.int .i64 1)] false [(0,1)] 1),(6,.mem 3 [.iv (.int .i64 2)] false [(0,1)] 1),(7,.mem 60 [.qc 0 1 0,.qc 0 1 1,.qc 0 1 2] false [(0,3)] 1),(8,.mem 60 [.qc 1 2 0,.qc 1 2 1,.qc 1 2 2] false [(0,3)] 1),(9,.mem 60 [.qc 1 1 0,.qc 1 1 1,.qc 1 1 2] false [(0,3)] 1)] 10=true:=by kernel_rfl
noncomputable def wkC6:Code:=match Tryz.f18.body with|some c=>hdC (tlC (tlC (tlC (tlC (tlC (tlC (c)))))))|none=>.skip
theorem wk6:runT eeW 100000 0 132 wkC6 [(2,.w (.one (.ptr 0 0 0))),(3,.w (.one (.iv (.int .i64 0)))),(6,.w (.one (.ptr 1 0 0))),(8,.w (.one (.iv (.int .i64 0)))),(10,.w (.one (.slc 2 2 0 2 (.fin 4)))),(11,.w (.one (.iv (.int .i64 14))))] [(0,.mem 60 [.qc 1 12 0,.qc 1 12 1,.qc 1 12 2] false [(0,3)] 1),(1,.mem 103 [.iv (.int .i64 1),.slc 3 2 0 3 (.fin 1),.slc 4 2 0 3 (.fin 3)] false [(0,3)] 1),(2,.mem 66 [.slc 5 0 0 1 (.fin 1),.qc (-1) 1 0,.qc (-1) 1 1,.qc (-1) 1 2,.slc 6 0 0 1 (.fin 1),.qc 1 1 0,.qc 1 1 1,.qc 1 1 2,.iv (.nil 3),.qc 0 1 0,.qc 0 1 1,.qc 0 1 2] false [(2,12),(1,0),(0,0)] 3),(3,.mem 42 [.slc 7 0 0 1 (.fin 3),.slc 8 0 0 1 (.fin 3),.slc 9 0 0 1 (.fin 3)] false [(2,3),(1,2),(0,1)] 3),(4,.mem 60 [.qc 1 6 0,.qc 1 6 1,.qc 1 6 2,.qc 2 3 0,.qc 2 3 1,.qc 2 3 2,.qc 1 6 0,.qc 1 6 1,.qc 1 6 2] false [(2,9),(1,6),(0,3)] 3),(5,.mem 3 [.iv (.int .i64 1)] false [(0,1)] 1),(6,.mem 3 [.iv (.int .i64 2)] false [(0,1)] 1),(7,.mem 60 [.qc 0 1 0,.qc 0 1 1,.qc 0 1 2] false [(0,3)] 1),(8,.mem 60 [.qc 1 2 0,.qc 1 2 1,.qc 1 2 2] false [(0,3)] 1),(9,.mem 60 [.qc 1 1 0,.qc 1 1 1,.qc 1 1 2] false [(0,3)] 1)] 10 [(0,0),(1,1),(2,2),(3,5184),(4,3),(5,4),(6,5),(7,6),(8,4597),(9,7),(10,8),(11,9),(12,4552),(13,5023),(14,5130),(15,4549),(16,4567),(17,4585),(18,5020),(19,5038),(20,5056),(21,5127),(22,5145),(23,5163)] [(2,.w (.one (.ptr 0 0 0))),(3,.w (.one (.iv (.int .i64 0)))),(6,.w (.one (.ptr 1 0 0))),(8,.w (.one (.iv (.int .i64 0)))),(10,.w (.one (.slc 2 2 0 2 (.fin 4)))),(11,.w (.one (.iv (.int .i64 14)))),(12,.w (.one (.ptr 3 0 0))),(13,.w (.one (.iv (.int .i64 0))))] [(0,.mem 60 [.qc 1 12 0,.qc 1 12 1,.qc 1 12 2] false [(0,3)] 1),(1,.mem 103 [.iv (.int .i64 1),.slc 4 2 0 3 (.fin 1),.slc 5 2 0 3 (.fin 3)] false [(0,3)] 1),(2,.mem 66 [.slc 6 0 0 1 (.fin 1),.qc (-1) 1 0,.qc (-1) 1 1,.qc (-1) 1 2,.slc 7 0 0 1 (.fin 1),.qc 1 1 0,.qc 1 1 1,.qc 1 1 2,.iv (.nil 3),.qc 0 1 0,.qc 0 1 1,.qc 0 1 2] false [(2,12),(1,0),(0,0)] 3),(3,.mem 31 [.iv (.int .i64 2),.iv (.nil 3),.slc 8 2 0 3 (.fin 1)] false [(0,3)] 1),(4,.mem 42 [.slc 9 0 0 1 (.fin 3),.slc 10 0 0 1 (.fin 3),.slc 11 0 0 1 (.fin 3)] false [(2,3),(1,2),(0,1)] 3),(5,.mem 60 [.qc 1 6 0,.qc 1 6 1,.qc 1 6 2,.qc 2 3 0,.qc 2 3 1,.qc 2 3 2,.qc 1 6 0,.qc 1 6 1,.qc 1 6 2] false [(2,9),(1,6),(0,3)] 3),(6,.mem 3 [.iv (.int .i64 1)] false [(0,1)] 1),(7,.mem 3 [.iv (.int .i64 2)] false [(0,1)] 1),(8,.mem 23 [.slc 12 2 0 3 (.fin 1),.slc 13 2 0 3 (.fin 1),.slc 14 2 0 3 (.fin 1)] false [(2,3),(1,2),(0,1)] 3),(9,.mem 60 [.qc 0 1 0,.qc 0 1 1,.qc 0 1 2] false [(0,3)] 1),(10,.mem 60 [.qc 1 2 0,.qc 1 2 1,.qc 1 2 2] false [(0,3)] 1),(11,.mem 60 [.qc 1 1 0,.qc 1 1 1,.qc 1 1 2] false [(0,3)] 1),(12,.mem 42 [.slc 15 0 0 2 (.fin 3),.slc 16 0 0 2 (.fin 3),.slc 17 0 0 2 (.fin 3)] false [(2,3),(1,2),(0,1)] 3),(13,.mem 42 [.slc 18 0 0 2 (.fin 3),.slc 19 0 0 2 (.fin 3),.slc 20 0 0 2 (.fin 3)] false [(2,3),(1,2),(0,1)] 3),(14,.mem 42 [.slc 21 0 0 2 (.fin 3),.slc 22 0 0 2 (.fin 3),.slc 23 0 0 2 (.fin 3)] false [(2,3),(1,2),(0,1)] 3),(15,.mem 60 [.qc 0 1 0,.qc 0 1 1,.qc 0 1 2,.qc 0 1 0,.qc 0 1 1,.qc 0 1 2] false [(0,6)] 1),(16,.mem 60 [.qc 2 1 0,.qc 2 1 1,.qc 2 1 2,.qc 0 1 0,.qc 0 1 1,.qc 0 1 2] false [(0,6)] 1),(17,.mem 60 [.qc 1 1 0,.qc 1 1 1,.qc 1 1 2,.qc 1 1 0,.qc 1 1 1,.qc 1 1 2] false [(0,6)] 1),(18,.mem 60 [.qc 0 1 0,.qc 0 1 1,.qc 0 1 2,.qc 2 1 0,.qc 2 1 1,.qc 2 1 2] false [(0,6)] 1),(19,.mem 60 [.qc 0 1 0,.qc 0 1 1,.qc 0 1 2,.qc 0 1 0,.qc 0 1 1,.qc 0 1 2] false [(0,6)] 1),(20,.mem 60 [.qc 1 1 0,.qc 1 1 1,.qc 1 1 2,.qc 1 1 0,.qc 1 1 1,.qc 1 1 2] false [(0,6)] 1),(21,.mem 60 [.qc 1 1 0,.qc 1 1 1,.qc 1 1 2,.qc 1 1 0,.qc 1 1 1,.qc 1 1 2] false [(0,6)] 1),(22,.mem 60 [.qc 2 1 0,.qc 2 1 1,.qc 2 1 2,.qc 2 1 0,.qc 2 1 1,.qc 2 1 2] false [(0,6)] 1),(23,.mem 60 [.qc 0 1 0,.qc 0 1 1,.qc 0 1 2,.qc 2 1 0,.qc 2 1 1,.qc 2 1 2] false [(0,6)] 1)] 24=true:=by kernel_rfl
noncomputable def wkC7:Code:=match Tryz.f18.body with|some c=>hdC (tlC (tlC (tlC (tlC (tlC (tlC (tlC (c))))))))|none=>.skip
theorem wk7:runT eeW 100000 0 132 wkC7 [(2,.w (.one (.ptr 0 0 0))),(3,.w (.one (.iv (.int .i64 0)))),(6,.w (.one (.ptr 1 0 0))),(8,.w (.one (.iv (.int .i64 0)))),(10,.w (.one (.slc 2 2 0 2 (.fin 4)))),(11,.w (.one (.iv (.int .i64 14)))),(12,.w (.one (.ptr 3 0 0))),(13,.w (.one (.iv (.int .i64 0))))] [(0,.mem 60 [.qc 1 12 0,.qc 1 12 1,.qc 1 12 2] false [(0,3)] 1),(1,.mem 103 [.iv (.int .i64 1),.slc 4 2 0 3 (.fin 1),.slc 5 2 0 3 (.fin 3)] false [(0,3)] 1),(2,.mem 66 [.slc 6 0 0 1 (.fin 1),.qc (-1) 1 0,.qc (-1) 1 1,.qc (-1) 1 2,.slc 7 0 0 1 (.fin 1),.qc 1 1 0,.qc 1 1 1,.qc 1 1 2,.iv (.nil 3),.qc 0 1 0,.qc 0 1 1,.qc 0 1 2] false [(2,12),(1,0),(0,0)] 3),(3,.mem 31 [.iv (.int .i64 2),.iv (.nil 3),.slc 8 2 0 3 (.fin 1)] false [(0,3)] 1),(4,.mem 42 [.slc 9 0 0 1 (.fin 3),.slc 10 0 0 1 (.fin 3),.slc 11 0 0 1 (.fin 3)] false [(2,3),(1,2),(0,1)] 3),(5,.mem 60 [.qc 1 6 0,.qc 1 6 1,.qc 1 6 2,.qc 2 3 0,.qc 2 3 1,.qc 2 3 2,.qc 1 6 0,.qc 1 6 1,.qc 1 6 2] false [(2,9),(1,6),(0,3)] 3),(6,.mem 3 [.iv (.int .i64 1)] false [(0,1)] 1),(7,.mem 3 [.iv (.int .i64 2)] false [(0,1)] 1),(8,.mem 23 [.slc 12 2 0 3 (.fin 1),.slc 13 2 0 3 (.fin 1),.slc 14 2 0 3 (.fin 1)] false [(2,3),(1,2),(0,1)] 3),(9,.mem 60 [.qc 0 1 0,.qc 0 1 1,.qc 0 1 2] false [(0,3)] 1),(10,.mem 60 [.qc 1 2 0,.qc 1 2 1,.qc 1 2 2] false [(0,3)] 1),(11,.mem 60 [.qc 1 1 0,.qc 1 1 1,.qc 1 1 2] false [(0,3)] 1),(12,.mem 42 [.slc 15 0 0 2 (.fin 3),.slc 16 0 0 2 (.fin 3),.slc 17 0 0 2 (.fin 3)] false [(2,3),(1,2),(0,1)] 3),(13,.mem 42 [.slc 18 0 0 2 (.fin 3),.slc 19 0 0 2 (.fin 3),.slc 20 0 0 2 (.fin 3)] false [(2,3),(1,2),(0,1)] 3),(14,.mem 42 [.slc 21 0 0 2 (.fin 3),.slc 22 0 0 2 (.fin 3),.slc 23 0 0 2 (.fin 3)] false [(2,3),(1,2),(0,1)] 3),(15,.mem 60 [.qc 0 1 0,.qc 0 1 1,.qc 0 1 2,.qc 0 1 0,.qc 0 1 1,.qc 0 1 2] false [(0,6)] 1),(16,.mem 60 [.qc 2 1 0,.qc 2 1 1,.qc 2 1 2,.qc 0 1 0,.qc 0 1 1,.qc 0 1 2] false [(0,6)] 1),(17,.mem 60 [.qc 1 1 0,.qc 1 1 1,.qc 1 1 2,.qc 1 1 0,.qc 1 1 1,.qc 1 1 2] false [(0,6)] 1),(18,.mem 60 [.qc 0 1 0,.qc 0 1 1,.qc 0 1 2,.qc 2 1 0,.qc 2 1 1,.qc 2 1 2] false [(0,6)] 1),(19,.mem 60 [.qc 0 1 0,.qc 0 1 1,.qc 0 1 2,.qc 0 1 0,.qc 0 1 1,.qc 0 1 2] false [(0,6)] 1),(20,.mem 60 [.qc 1 1 0,.qc 1 1 1,.qc 1 1 2,.qc 1 1 0,.qc 1 1 1,.qc 1 1 2] false [(0,6)] 1),(21,.mem 60 [.qc 1 1 0,.qc 1 1 1,.qc 1 1 2,.qc 1 1 0,.qc 1 1 1,.qc 1 1 2] false [(0,6)] 1),(22,.mem 60 [.qc 2 1 0,.qc 2 1 1,.qc 2 1 2,.qc 2 1 0,.qc 2 1 1,.qc 2 1 2] false [(0,6)] 1),(23,.mem 60 [.qc 0 1 0,.qc 0 1 1,.qc 0 1 2,.qc 2 1 0,.qc 2 1 1,.qc 2 1 2] false [(0,6)] 1)] 24 [] [(0,.w (.one (.iv (.bool true))))] [] 0=true:=by kernel_rfl
set_option maxRecDepth 100000 in
theorem wakes_ok{J:Keep}(L:LibI J):C J 18 [] (.bool true):=by
 refine pureD (X:=XE J) J.bel (xs:=[]) Tryz.func18 rfl rfl rfl rfl 0 ?_
 refine SW.RS (by kernel_rfl) ?_;conv=>whnf
 refine SW.to (s':=mkS [] [] 0) (To.tab [] trivial trivial rfl) ?_
 refine SW.closedT (x:=wkC1) (fnT_ok rfl) (orcW_ok L) wk1 ?_
 refine SW.closedT (x:=wkC2) (fnT_ok rfl) (orcW_ok L) wk2 ?_
 refine SW.closedT (x:=wkC3) (fnT_ok rfl) (orcW_ok L) wk3 ?_
 refine SW.closedT (x:=wkC4) (fnT_ok rfl) (orcW_ok L) wk4 ?_
 refine SW.closedT (x:=wkC5) (fnT_ok rfl) (orcW_ok L) wk5 ?_
 refine SW.closedT (x:=wkC6) (fnT_ok rfl) (orcW_ok L) wk6 ?_
 refine SW.closedT (x:=wkC7) (fnT_ok rfl) (orcW_ok L) wk7 ?_
 refine SW.ret ?_
 rfl
end Go.Proofs.En
namespace Go.Proofs.Fl
open Go.RowKit Go.ChangeShapes Go.WideShapes
attribute [local irreducible] IntKind.wrap PureC MutC MakC IterC
theorem tab_keep{P:Program}{n:String}{g:Nat}{k:IntKind}{zs:List Int}{w w':World}(hg:P.globalNamed n=some g)(h:Lib.TabIs P w n k zs)(hb:Below w.heap.size w w'):Lib.TabIs P w' n k zs:=by
 unfold Lib.TabIs World.var? at h ⊢
 rw[hg] at h ⊢
 simp only[Option.bind_some] at h ⊢
 have hlt:g<w.heap.size:=by
  rcases Nat.lt_or_ge g w.heap.size with h'|h'
  · exact h'
  · rw[Array.getElem?_eq_none h'] at h;cases h
 rw[hb.block g hlt]
 exact h
theorem gPow:Tryz.prog.globalNamed "internal/strconv.uint64pow10" = some ((Tryz.prog.globalNamed "internal/strconv.uint64pow10").getD 0):=by kernel_rfl
theorem below_less{n m:Nat}{w w':World}(h:Below n w w')(hm:m≤n):Below m w w':=⟨h.os,h.tape,h.output,h.size,fun k hk=>h.block k (by omega)⟩
def lawJ:Keep where
 I w:=Lib.TabIs Tryz.prog w "internal/strconv.uint64pow10" .u64 Lib.pow10Tab
 bel n w w' h hn hb:=tab_keep gPow h (below_less hb hn)
 ro:=fun r=>r=none
 r0:=rfl
theorem lawL:LibI lawJ:=⟨fun _ h=>h⟩
theorem below_kept{W W':World}(h:Below W.heap.size W W')(may:MemPlace→Prop):W.keptBut W' may:=by
 refine⟨h.os,h.output,fun i hi=>?_⟩
 rw[h.block i hi]
 cases W.heap[i]? with
 |none=>rfl
 |some o=>cases o<;>first|rfl|exact⟨rfl,rfl,rfl,fun _ _=>rfl⟩|exact .inr ⟨rfl,rfl⟩
theorem trodAll_keep{H:Type}{enc:TypeId×Value→H}{P:Program}(hl:laidOutB P=true){W W':World}(hb:Below W.heap.size W W'):∀{ts:List TypeId} {vs:List Value} {ds:List (DataW H)} {ps:List MemPlace},
 ts.all (fun t=>P.readableRec t&&decide (t<P.types.size))=true→DataW.TrodAll enc P W 0 (fun _=>true) true ts vs ds ps→(∀x∈ps,x.block<W.heap.size)→DataW.TrodAll enc P W' 0 (fun b=>decide (b<W.heap.size)) true ts vs ds ps
 | [],_,_,_,_,h,_=>by
  obtain⟨rfl,rfl,rfl⟩:=trodAll_nil h
  exact h
 |t::ts,_,_,_,hr,h,hlt=>by
  obtain⟨v,vs1,d,ds1,a,b,rfl,rfl,rfl,h1,h2⟩:=trodAll_cons h
  simp only[List.all_cons,Bool.and_eq_true,decide_eq_true_eq] at hr
  exact⟨a,b,Below.trod hl hr.1.1 hr.1.2 h1 hb (fun x hx=>hlt x (by simp[hx])),trodAll_keep hl hb (by simpa using hr.2) h2 (fun x hx=>hlt x (by simp[hx])),rfl⟩
theorem laidOut:laidOutB Tryz.prog=true:=by kernel_rfl
theorem ownK:ownKnob Tryz.prog.godebug=none:=by kernel_rfl
set_option maxRecDepth 100000 in
theorem law_lifted{f:FuncId}{fn:Func}{s:ChangeSpec}{laid:List (String×DataW Unit)}{os:Os}(started:os.Started){H:Type}{enc:TypeId×Value→H}
 (hfn:Tryz.prog.funcs[f]?=some fn) (noInit:Tryz.prog.inits.idxOf? f=none) (hv:s.vars=[]) (hr:fn.resultTypes = #[4])
 (hs:∀ds:List (DataW H),ds.length=fn.params.toList.length→s.fn H ds = { results:=[.lit (.bool true)],args:=ds })
 (hread:fn.params.toList.all (fun t=>Tryz.prog.readableRec t&&decide (t<Tryz.prog.types.size))=true)
 (hlaid:∀W,laidMetH Tryz.prog laid W→Lib.TabIs Tryz.prog W "internal/strconv.uint64pow10" .u64 Lib.pow10Tab)
 (witness:∃(w:World) (tape:Tape) (i:Input),w.os=os∧(w.forCall tape i).Shaped Tryz.prog∧i.vars=[]∧Input.okWide Tryz.prog (w.forCall tape i) .any w.heap.size f i∧
   ((s.pre enc Tryz.prog fn [] false (w.forCall tape i).memory i.args∧laidMetH Tryz.prog laid (w.forCall tape i).memory)∧sizedMet enc Tryz.prog fn (OpenSpec.ofChange s) false (w.forCall tape i).memory i.args)∧({}:Assume).holds Tryz.prog (lone (Frame.enter Tryz.prog f i.args .normal) [] (w.forCall tape i)))
 (hlaw:∀(W:World) (base:Nat) (args:Array Value) (ds:List (DataW H)) (p:List MemPlace),(∀(j:Nat) t v,fn.params[j]?=some t→args[j]?=some v→Value.okWide Tryz.prog W .any base t v)→
   DataW.TrodAll enc Tryz.prog W 0 (fun _=>true) true fn.params.toList args.toList ds p→∃(Hp:Heap) (xs:List IV),HeapHas W Hp∧VRL Hp args.toList xs∧C lawJ f xs (.bool true)) :
 ReturnsInHanded {} Tryz.checked os f .any (fun w args=>(s.pre enc Tryz.prog fn [] false w args∧laidMetH Tryz.prog laid w)∧sizedMet enc Tryz.prog fn (OpenSpec.ofChange s) false w args) (s.post enc Tryz.prog fn false true false false):=by
 refine returnsInHanded_of_calls (C:=Tryz.checked) ownK started noInit witness ?_
 intro w tape i _ hsh _ hok hpre _
 obtain⟨_,_,_,fn',hfn',_,_,_,_,hval⟩:=hok
 obtain rfl:fn'=fn:=Option.some.inj (hfn'.symm.trans hfn)
 obtain⟨⟨⟨ds,gs,before,hw,hc⟩,hx⟩,hz⟩:=hpre
 have hw':=DataW.Whole.of_heap (w':=w.forCall tape i) (by rfl) hw
 have hx':laidMetH Tryz.prog laid (w.forCall tape i):=hx.of_heap (by rfl)
 obtain⟨W,hW⟩:∃W,w.forCall tape i=W:=⟨_,rfl⟩
 rw[hW] at hsh hval hw' hx' ⊢
 have hlt:=hw'.lt
 have hw2:=hw'
 obtain⟨p,q,hA,hV,rfl,_,_⟩:=hw2
 obtain⟨Hp,xs,hH,hargs,hC⟩:=hlaw W w.heap.size i.args ds p hval hA
 rw[hv] at hV
 obtain⟨rfl,rfl⟩:gs=[]∧q=[]:=by
  cases gs with
  |nil=>exact⟨rfl,hV⟩
  |cons g r=>exact absurd hV (by intro h;cases h)
 have hI:lawJ.I W:=hlaid W hx'
 unfold C PureC at hC
 have hcall:=hC.2 Hp W i.args.toList hI hH hargs
 have ha:i.args.toList.toArray=i.args:=rfl
 rw[ha] at hcall
 refine hcall.mono ?_
 rintro e W' ⟨v,H',rfl,_,_,hvr,hb⟩
 cases hvr
 have hlen:ds.length=fn'.params.toList.length:=by
  have:∀{ts:List TypeId} {vs:List Value} {ds:List (DataW H)} {ps:List MemPlace},DataW.TrodAll enc Tryz.prog W 0 (fun _=>true) true ts vs ds ps→ds.length=ts.length:=by
   intro ts
   induction ts with
   |nil=>intro vs ds ps h;obtain⟨rfl,rfl,rfl⟩:=trodAll_nil h;rfl
   |cons t ts ih =>
    intro vs ds ps h
    obtain⟨v,vs1,d,ds1,a,b,rfl,rfl,rfl,h1,h2⟩:=trodAll_cons h
    simp[ih h2]
  exact this hA
 have e1:s.fn H (ds ++ []) = { results:=[.lit (.bool true)],args:=ds }:=by rw[List.append_nil];exact hs ds hlen
 refine ChangeSpec.post_blind ?_
 refine⟨ds,[],p ++ [],[],p,[],hw',?_,?_,?_,below_kept hb _,fun h=>by cases h⟩
 · rw[e1,hr]
   exact trodAll_mk1 (shut_bool Tryz.underlying4 true)
 · rw[e1]
   exact trodAll_keep laidOut hb hread hA (fun x hx=>hlt x (by simp[hx]))
 · rw[e1,hv]
   rfl
end Go.Proofs.Fl
namespace Go.Proofs.Fl
open Go.RowKit Go.ChangeShapes Go.WideShapes Go.Deep
attribute [local irreducible] IntKind.wrap PureC MutC MakC IterC
set_option maxRecDepth 100000
section
variable {H:Type}{enc:TypeId×Value→H}{w:World}{base:Nat}{spare:Nat→Bool}{held:Bool}
end
def noHeap:Heap:=fun _=>none
theorem noHeap_has(w:World):HeapHas w noHeap:=fun _ _ h=>by cases h
noncomputable def witW(os:Os):World:=World.doorLaid Tryz.prog 65 os
theorem wit_met(os:Os)(args:Array Value):laidMetH Tryz.prog YtidnkcdelnfkjaaGreatDoor.Rows.regionMonomialsRow.laid ((witW os).forCall (fun _ _=>0) ⟨#[],args,[]⟩).memory:=by
 rw[MakeChecks.laidMetH_plain _ _ _ (by kernel_rfl)]
 exact laidMet_of_run' 8 (by kernel_rfl) (by kernel_rfl)
theorem laid_pow(W:World)(h:laidMetH Tryz.prog YtidnkcdelnfkjaaGreatDoor.Rows.regionMonomialsRow.laid W):Lib.TabIs Tryz.prog W "internal/strconv.uint64pow10" .u64 Lib.pow10Tab:=by
 have h1:=h.filter (fun x=>x.1 == "internal/strconv.uint64pow10")
 have e:(YtidnkcdelnfkjaaGreatDoor.Rows.regionMonomialsRow.laid.filter fun x=>x.1 == "internal/strconv.uint64pow10")=[("internal/strconv.uint64pow10",Lib.tabData .u64 Lib.pow10Tab)]:=by kernel_rfl
 rw[e,MakeChecks.laidMetH_plain _ _ _ (by kernel_rfl)] at h1
 exact Lib.tabIs_of_head gPow (t:=(Tryz.prog.globals[(Tryz.prog.globalNamed "internal/strconv.uint64pow10").getD 0]?.map (·.type)).getD 0) (e:=266) (n:=20) (by kernel_rfl) (by kernel_rfl) (by kernel_rfl) (by kernel_rfl) (by kernel_rfl) h1
theorem laidOut':laidOutB YtidnkcdelnfkjaaGreatDoor.Tryz.pinned.checked.prog=true:=by kernel_rfl
theorem rowed':mapsRowed YtidnkcdelnfkjaaGreatDoor.Tryz.pinned.checked.prog=true:=by kernel_rfl
end Go.Proofs.Fl
