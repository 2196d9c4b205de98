/- A part of the proof: PvR1Res. -/
import Derived.Test.YtjhnnagcebcedaaTab
import Derived.KernelRfl
set_option linter.unusedSimpArgs false
set_option linter.unusedVariables false
/- PRINTED by a tool of this work (wip/pv/tool): what each function's code comes to. -/
namespace Go.PVr1
open Go.PV Go.Proofs
set_option maxRecDepth 100000
set_option linter.unusedVariables false
theorem r3 (call : CallT) (lp : Code → St → Option (Ex × St)) (k : Ex → St → Option Res) (a0 : Int) (a1 : List (List D)) (a2 : List (List D)) :
    evK (Y.ctx call) 3 lp c3 (initSt Try.f3 [AV.g [A1.v (Value.int IntKind.i64 a0), A1.s a1], AV.one (A1.s a2)] []) k =
    (call 7 [AV.g [A1.v (Value.int IntKind.i64 a0), A1.s a1], AV.one (A1.v (Value.int IntKind.i64 1048576))] []).bind fun val =>
  bif fitsCells [R1.int IntKind.i64] val.1 && true then
    bif decide ((val.1.getD 0 TC.d).int < 0) then k Ex.ret (mk 0 45 [(4, AV.one (A1.v (Value.bool true)))] [])
    else
      evK (Y.ctx call) 3 lp (dropC 4 c3)
        (mk 0 45 [(1, AV.one (A1.s a2)), (2, AV.one (A1.p true 2 [] 0)), (5, AV.one (A1.v (Value.int IntKind.i64 (val.1.getD 0 TC.d).int)))]
          [(2, some { kind := Kind.box, row := [D.v (Value.int IntKind.i64 a0), D.s a1], fl := [Own.deep, Own.sh] })])
        k
  else none := by
  refine cut_use0 3 4 rfl (c3) (by kernel_rfl) fun K e1 => ?_
  try simp only [← e1]
  clear e1
  kernel_rfl
theorem r3e0 (call : CallT) (y0 : Bool) :
    outE (Y.ctx call) 3 Try.f3 Ex.ret (mk 0 45 [(4, AV.one (A1.v (Value.bool y0)))] []) =
    some { cells := [TC.v (Value.bool y0)], objs := [] } := by kernel_rfl
theorem r3c4 (call : CallT) (lp : Code → St → Option (Ex × St)) (k : Ex → St → Option Res) (y0 : List (List D)) (y1 : Int) (y2 : Int) (y3 : List (List D)) :
    evK (Y.ctx call) 3 lp (dropC 4 c3)
  (mk 0 45 [(1, AV.one (A1.s y0)), (2, AV.one (A1.p true 2 [] 0)), (5, AV.one (A1.v (Value.int IntKind.i64 y1)))]
    [(2, some { kind := Kind.box, row := [D.v (Value.int IntKind.i64 y2), D.s y3], fl := [Own.deep, Own.sh] })])
  k =
    (call 8 [AV.one (A1.s y0), AV.one (A1.v (Value.int IntKind.i64 y1))] []).bind fun val =>
  bif fitsCells [R1.int IntKind.i64] val.1 && true then
    bif decide ((val.1.getD 0 TC.d).int < 0) then k Ex.ret (mk 0 45 [(4, AV.one (A1.v (Value.bool true)))] [])
    else
      (call 10 [AV.g [A1.v (Value.int IntKind.i64 y2), A1.s y3]] []).bind fun val =>
        bif fitsCells [R1.int IntKind.i64, R1.own Own.deep] val.1 && true then
          (call 11 [AV.one (A1.s y0)] []).bind fun val_1 =>
            bif fitsCells [R1.own Own.deep] val_1.1 && true then
              (call 9 [AV.g [A1.v (Value.int IntKind.i64 (val.1.getD 0 TC.d).int), A1.s (val.1.getD 1 TC.d).es], AV.one (A1.s (val_1.1.getD 0 TC.d).es)] []).bind fun val =>
                bif fitsCells [R1.int IntKind.i64] val.1 && true then
                  evK (Y.ctx call) 3 lp (dropC 7 c3)
                    (mk 0 45 [(1, AV.one (A1.s y0)), (2, AV.one (A1.p true 2 [] 0)), (6, AV.one (A1.v (Value.int IntKind.i64 (val.1.getD 0 TC.d).int)))]
                      [(2, some { kind := Kind.box, row := [D.v (Value.int IntKind.i64 y2), D.s y3], fl := [Own.deep, Own.sh] })])
                    k
                else none
            else none
        else none
  else none := by
  refine cut_use 4 2 7 rfl (c3) (by kernel_rfl) fun K e1 => ?_
  try simp only [← e1]
  clear e1
  kernel_rfl
theorem r3c7 (call : CallT) (lp : Code → St → Option (Ex × St)) (k : Ex → St → Option Res) (y0 : List (List D)) (y1 : Int) (y2 : Int) (y3 : List (List D)) :
    evK (Y.ctx call) 3 lp (dropC 7 c3)
  (mk 0 45 [(1, AV.one (A1.s y0)), (2, AV.one (A1.p true 2 [] 0)), (6, AV.one (A1.v (Value.int IntKind.i64 y1)))]
    [(2, some { kind := Kind.box, row := [D.v (Value.int IntKind.i64 y2), D.s y3], fl := [Own.deep, Own.sh] })])
  k =
    (call 10 [AV.g [A1.v (Value.int IntKind.i64 y2), A1.s y3]] []).bind fun val =>
  bif fitsCells [R1.int IntKind.i64, R1.own Own.deep] val.1 && true then
    (call 11 [AV.one (A1.s y0)] []).bind fun val_1 =>
      bif fitsCells [R1.own Own.deep] val_1.1 && true then
        (call 12 [AV.g [A1.v (Value.int IntKind.i64 (val.1.getD 0 TC.d).int), A1.s (val.1.getD 1 TC.d).es], AV.one (A1.s (val_1.1.getD 0 TC.d).es)] []).bind fun val_2 =>
          bif fitsCells [R1.int IntKind.i64] val_2.1 && true then
            evK (Y.ctx call) 3 lp (dropC 10 c3)
              (mk 0 45
                [(1, AV.one (A1.s y0)), (2, AV.one (A1.p true 2 [] 0)), (6, AV.one (A1.v (Value.int IntKind.i64 y1))), (7, AV.one (A1.p true 7 [] 0)), (8, AV.one (A1.r 8 [] 0)),
                  (9, AV.one (A1.v (Value.int IntKind.i64 (val_2.1.getD 0 TC.d).int)))]
                [(2, some { kind := Kind.box, row := [D.v (Value.int IntKind.i64 y2), D.s y3], fl := [Own.deep, Own.sh] }),
                  (7, some { kind := Kind.box, row := [D.v (Value.int IntKind.i64 (val.1.getD 0 TC.d).int), D.s (val.1.getD 1 TC.d).es], fl := [Own.deep, Own.deep] }),
                  (8, some { kind := Kind.virt, row := [D.s (val_1.1.getD 0 TC.d).es], fl := [Own.deep] })])
              k
          else none
      else none
  else none := by
  refine cut_use 7 2 10 rfl (c3) (by kernel_rfl) fun K e1 => ?_
  try simp only [← e1]
  clear e1
  kernel_rfl
theorem r3c10 (call : CallT) (lp : Code → St → Option (Ex × St)) (k : Ex → St → Option Res) (y0 : List (List D)) (y1 : Int) (y2 : Int) (y3 : Int) (y4 : List (List D)) (y5 : Int) (y6 : List (List D)) (y7 : List (List D)) :
    evK (Y.ctx call) 3 lp (dropC 10 c3)
  (mk 0 45
    [(1, AV.one (A1.s y0)), (2, AV.one (A1.p true 2 [] 0)), (6, AV.one (A1.v (Value.int IntKind.i64 y1))), (7, AV.one (A1.p true 7 [] 0)), (8, AV.one (A1.r 8 [] 0)),
      (9, AV.one (A1.v (Value.int IntKind.i64 y2)))]
    [(2, some { kind := Kind.box, row := [D.v (Value.int IntKind.i64 y3), D.s y4], fl := [Own.deep, Own.sh] }),
      (7, some { kind := Kind.box, row := [D.v (Value.int IntKind.i64 y5), D.s y6], fl := [Own.deep, Own.deep] }), (8, some { kind := Kind.virt, row := [D.s y7], fl := [Own.deep] })])
  k =
    bif y2 != y1 then k Ex.ret (mk 0 45 [(4, AV.one (A1.v (Value.bool false)))] [])
else
  (call 10 [AV.g [A1.v (Value.int IntKind.i64 y3), A1.s y4]] []).bind fun val =>
    bif fitsCells [R1.int IntKind.i64, R1.own Own.deep] val.1 && true then
      (call 13 [AV.g [A1.v (Value.int IntKind.i64 y5), A1.s y6], AV.g [A1.v (Value.int IntKind.i64 (val.1.getD 0 TC.d).int), A1.s (val.1.getD 1 TC.d).es]] []).bind fun val =>
        bif fitsCells [R1.bool] val.1 && true then
          bif !(val.1.getD 0 TC.d).bool then k Ex.ret (mk 0 45 [(4, AV.one (A1.v (Value.bool false)))] [])
          else evK (Y.ctx call) 3 lp (dropC 12 c3) (mk 0 45 [(1, AV.one (A1.s y0)), (8, AV.one (A1.r 8 [] 0))] [(8, some { kind := Kind.virt, row := [D.s y7], fl := [Own.deep] })]) k
        else none
    else none := by
  refine cut_use 10 1 12 rfl (c3) (by kernel_rfl) fun K e1 => ?_
  try simp only [← e1]
  clear e1
  kernel_rfl
theorem r3c12 (call : CallT) (lp : Code → St → Option (Ex × St)) (k : Ex → St → Option Res) (y0 : List (List D)) (y1 : List (List D)) :
    evK (Y.ctx call) 3 lp (dropC 12 c3) (mk 0 45 [(1, AV.one (A1.s y0)), (8, AV.one (A1.r 8 [] 0))] [(8, some { kind := Kind.virt, row := [D.s y1], fl := [Own.deep] })]) k =
    (call 11 [AV.one (A1.s y0)] []).bind fun val =>
  bif fitsCells [R1.own Own.deep] val.1 && true then
    (call 14 [AV.one (A1.s y1), AV.one (A1.s (val.1.getD 0 TC.d).es)] []).bind fun val =>
      bif fitsCells [R1.bool] val.1 && true then
        bif !(val.1.getD 0 TC.d).bool then k Ex.ret (mk 0 45 [(4, AV.one (A1.v (Value.bool false)))] []) else evK (Y.ctx call) 3 lp (dropC 14 c3) (mk 0 45 [(4, AV.one (A1.v (Value.bool true)))] []) k
      else none
  else none := by
  refine cut_use 12 1 14 rfl (c3) (by kernel_rfl) fun K e1 => ?_
  try simp only [← e1]
  clear e1
  kernel_rfl
theorem r3c14 (call : CallT) (lp : Code → St → Option (Ex × St)) (y0 : Bool) :
    evK (Y.ctx call) 3 lp (dropC 14 c3) (mk 0 45 [(4, AV.one (A1.v (Value.bool y0)))] []) (outE (Y.ctx call) 3 Try.f3) =
    some { cells := [TC.v (Value.bool y0)], objs := [] } := by kernel_rfl

theorem r4 (call : CallT) (lp : Code → St → Option (Ex × St)) (k : Ex → St → Option Res) (a0 : Int) (a1 : List (List D)) (a2 : Int) :
    evK (Y.ctx call) 4 lp c4 (initSt Try.f4 [AV.g [A1.v (Value.int IntKind.i64 a0), A1.s a1], AV.one (A1.v (Value.int IntKind.i64 a2))] []) k =
    (call 7 [AV.g [A1.v (Value.int IntKind.i64 a0), A1.s a1], AV.one (A1.v (Value.int IntKind.i64 1048576))] []).bind fun val =>
  bif fitsCells [R1.int IntKind.i64] val.1 && true then
    bif decide ((val.1.getD 0 TC.d).int < 0) then k Ex.ret (mk 0 101 [(4, AV.one (A1.v (Value.bool true)))] [])
    else
      evK (Y.ctx call) 4 lp (dropC 4 c4)
        (mk 0 101 [(1, AV.one (A1.v (Value.int IntKind.i64 a2))), (2, AV.one (A1.p true 2 [] 0))]
          [(2, some { kind := Kind.box, row := [D.v (Value.int IntKind.i64 a0), D.s a1], fl := [Own.deep, Own.sh] })])
        k
  else none := by
  refine cut_use0 3 4 rfl (c4) (by kernel_rfl) fun K e1 => ?_
  try simp only [← e1]
  clear e1
  kernel_rfl
theorem r4e0 (call : CallT) (y0 : Bool) :
    outE (Y.ctx call) 4 Try.f4 Ex.ret (mk 0 101 [(4, AV.one (A1.v (Value.bool y0)))] []) =
    some { cells := [TC.v (Value.bool y0)], objs := [] } := by kernel_rfl
theorem r4c4 (call : CallT) (lp : Code → St → Option (Ex × St)) (k : Ex → St → Option Res) (y0 : Int) (y1 : Int) (y2 : List (List D)) :
    evK (Y.ctx call) 4 lp (dropC 4 c4)
  (mk 0 101 [(1, AV.one (A1.v (Value.int IntKind.i64 y0))), (2, AV.one (A1.p true 2 [] 0))] [(2, some { kind := Kind.box, row := [D.v (Value.int IntKind.i64 y1), D.s y2], fl := [Own.deep, Own.sh] })])
  k =
    (call 10 [AV.g [A1.v (Value.int IntKind.i64 y1), A1.s y2]] []).bind fun val =>
  bif fitsCells [R1.int IntKind.i64, R1.own Own.deep] val.1 && true then
    (call 15 [AV.g [A1.v (Value.int IntKind.i64 (val.1.getD 0 TC.d).int), A1.s (val.1.getD 1 TC.d).es], AV.one (A1.v (Value.int IntKind.i64 y0))] []).bind fun val =>
      bif fitsCells [R1.own Own.deep, R1.bool] val.1 && true then
        evK (Y.ctx call) 4 lp (dropC 5 c4)
          (mk 0 101 [(1, AV.one (A1.v (Value.int IntKind.i64 y0))), (2, AV.one (A1.p true 2 [] 0)), (6, AV.one (A1.r 6 [] 0)), (7, AV.one (A1.v (Value.bool (val.1.getD 1 TC.d).bool)))]
            [(2, some { kind := Kind.box, row := [D.v (Value.int IntKind.i64 y1), D.s y2], fl := [Own.deep, Own.sh] }),
              (6, some { kind := Kind.virt, row := [D.s (val.1.getD 0 TC.d).es, D.h], fl := [Own.deep, Own.sh] })])
          k
      else none
  else none := by
  refine cut_use 4 0 5 rfl (c4) (by kernel_rfl) fun K e1 => ?_
  try simp only [← e1]
  clear e1
  kernel_rfl
theorem r4c5 (call : CallT) (lp : Code → St → Option (Ex × St)) (k : Ex → St → Option Res) (y0 : Int) (y1 : Bool) (y2 : Int) (y3 : List (List D)) (y4 : List (List D)) :
    evK (Y.ctx call) 4 lp (dropC 5 c4)
  (mk 0 101 [(1, AV.one (A1.v (Value.int IntKind.i64 y0))), (2, AV.one (A1.p true 2 [] 0)), (6, AV.one (A1.r 6 [] 0)), (7, AV.one (A1.v (Value.bool y1)))]
    [(2, some { kind := Kind.box, row := [D.v (Value.int IntKind.i64 y2), D.s y3], fl := [Own.deep, Own.sh] }), (6, some { kind := Kind.virt, row := [D.s y4, D.h], fl := [Own.deep, Own.sh] })])
  k =
    (call 10 [AV.g [A1.v (Value.int IntKind.i64 y2), A1.s y3]] []).bind fun val =>
  bif fitsCells [R1.int IntKind.i64, R1.own Own.deep] val.1 && true then
    (call 16 [AV.g [A1.v (Value.int IntKind.i64 (val.1.getD 0 TC.d).int), A1.s (val.1.getD 1 TC.d).es], AV.one (A1.v (Value.int IntKind.i64 y0))] []).bind fun val_1 =>
      bif fitsCells [R1.own Own.deep, R1.bool] val_1.1 && true then
        evK (Y.ctx call) 4 lp (dropC 7 c4)
          (mk 0 101
            [(1, AV.one (A1.v (Value.int IntKind.i64 y0))), (2, AV.one (A1.p true 2 [] 0)), (6, AV.one (A1.r 6 [] 0)), (7, AV.one (A1.v (Value.bool y1))), (8, AV.one (A1.p true 8 [] 0)),
              (9, AV.one (A1.r 9 [] 0)), (10, AV.one (A1.v (Value.bool (val_1.1.getD 1 TC.d).bool)))]
            [(2, some { kind := Kind.box, row := [D.v (Value.int IntKind.i64 y2), D.s y3], fl := [Own.deep, Own.sh] }), (6, some { kind := Kind.virt, row := [D.s y4, D.h], fl := [Own.deep, Own.sh] }),
              (8, some { kind := Kind.box, row := [D.v (Value.int IntKind.i64 (val.1.getD 0 TC.d).int), D.s (val.1.getD 1 TC.d).es], fl := [Own.deep, Own.deep] }),
              (9, some { kind := Kind.virt, row := [D.s (val_1.1.getD 0 TC.d).es, D.h], fl := [Own.deep, Own.sh] })])
          k
      else none
  else none := by
  refine cut_use 5 1 7 rfl (c4) (by kernel_rfl) fun K e1 => ?_
  try simp only [← e1]
  clear e1
  kernel_rfl
theorem r4c7 (call : CallT) (lp : Code → St → Option (Ex × St)) (k : Ex → St → Option Res) (y0 : Int) (y1 : Bool) (y2 : Bool) (y3 : Int) (y4 : List (List D)) (y5 : List (List D)) (y6 : Int) (y7 : List (List D)) (y8 : List (List D)) :
    evK (Y.ctx call) 4 lp (dropC 7 c4)
  (mk 0 101
    [(1, AV.one (A1.v (Value.int IntKind.i64 y0))), (2, AV.one (A1.p true 2 [] 0)), (6, AV.one (A1.r 6 [] 0)), (7, AV.one (A1.v (Value.bool y1))), (8, AV.one (A1.p true 8 [] 0)),
      (9, AV.one (A1.r 9 [] 0)), (10, AV.one (A1.v (Value.bool y2)))]
    [(2, some { kind := Kind.box, row := [D.v (Value.int IntKind.i64 y3), D.s y4], fl := [Own.deep, Own.sh] }), (6, some { kind := Kind.virt, row := [D.s y5, D.h], fl := [Own.deep, Own.sh] }),
      (8, some { kind := Kind.box, row := [D.v (Value.int IntKind.i64 y6), D.s y7], fl := [Own.deep, Own.deep] }), (9, some { kind := Kind.virt, row := [D.s y8, D.h], fl := [Own.deep, Own.sh] })])
  k =
    (call 14 [AV.one (A1.s y8), AV.one (A1.s y5)] []).bind fun val =>
  bif fitsCells [R1.bool] val.1 && true then
    bif !(val.1.getD 0 TC.d).bool then k Ex.ret (mk 0 101 [(4, AV.one (A1.v (Value.bool false)))] [])
    else
      bif !y2 == y1 then k Ex.ret (mk 0 101 [(4, AV.one (A1.v (Value.bool false)))] [])
      else
        evK (Y.ctx call) 4 lp (dropC 8 c4)
          (mk 0 101
            [(1, AV.one (A1.v (Value.int IntKind.i64 y0))), (2, AV.one (A1.p true 2 [] 0)), (6, AV.one (A1.r 6 [] 0)), (7, AV.one (A1.v (Value.bool y1))), (8, AV.one (A1.p true 8 [] 0)),
              (9, AV.one (A1.r 9 [] 0)), (10, AV.one (A1.v (Value.bool y2)))]
            [(2, some { kind := Kind.box, row := [D.v (Value.int IntKind.i64 y3), D.s y4], fl := [Own.deep, Own.sh] }), (6, some { kind := Kind.virt, row := [D.s y5, D.h], fl := [Own.deep, Own.sh] }),
              (8, some { kind := Kind.box, row := [D.v (Value.int IntKind.i64 y6), D.s y7], fl := [Own.deep, Own.deep] }),
              (9, some { kind := Kind.virt, row := [D.s y8, D.h], fl := [Own.deep, Own.sh] })])
          k
  else none := by
  refine cut_use 7 0 8 rfl (c4) (by kernel_rfl) fun K e1 => ?_
  try simp only [← e1]
  clear e1
  kernel_rfl
theorem r4c8 (call : CallT) (lp : Code → St → Option (Ex × St)) (k : Ex → St → Option Res) (y0 : Int) (y1 : Bool) (y2 : Bool) (y3 : Int) (y4 : List (List D)) (y5 : List (List D)) (y6 : Int) (y7 : List (List D)) (y8 : List (List D)) :
    evK (Y.ctx call) 4 lp (dropC 8 c4)
  (mk 0 101
    [(1, AV.one (A1.v (Value.int IntKind.i64 y0))), (2, AV.one (A1.p true 2 [] 0)), (6, AV.one (A1.r 6 [] 0)), (7, AV.one (A1.v (Value.bool y1))), (8, AV.one (A1.p true 8 [] 0)),
      (9, AV.one (A1.r 9 [] 0)), (10, AV.one (A1.v (Value.bool y2)))]
    [(2, some { kind := Kind.box, row := [D.v (Value.int IntKind.i64 y3), D.s y4], fl := [Own.deep, Own.sh] }), (6, some { kind := Kind.virt, row := [D.s y5, D.h], fl := [Own.deep, Own.sh] }),
      (8, some { kind := Kind.box, row := [D.v (Value.int IntKind.i64 y6), D.s y7], fl := [Own.deep, Own.deep] }), (9, some { kind := Kind.virt, row := [D.s y8, D.h], fl := [Own.deep, Own.sh] })])
  k =
    (call 10 [AV.g [A1.v (Value.int IntKind.i64 y3), A1.s y4]] []).bind fun val =>
  bif fitsCells [R1.int IntKind.i64, R1.own Own.deep] val.1 && true then
    (call 13 [AV.g [A1.v (Value.int IntKind.i64 y6), A1.s y7], AV.g [A1.v (Value.int IntKind.i64 (val.1.getD 0 TC.d).int), A1.s (val.1.getD 1 TC.d).es]] []).bind fun val =>
      bif fitsCells [R1.bool] val.1 && true then
        bif !(val.1.getD 0 TC.d).bool then k Ex.ret (mk 0 101 [(4, AV.one (A1.v (Value.bool false)))] [])
        else
          evK (Y.ctx call) 4 lp (dropC 10 c4)
            (mk 0 101
              [(1, AV.one (A1.v (Value.int IntKind.i64 y0))), (2, AV.one (A1.p true 2 [] 0)), (6, AV.one (A1.r 6 [] 0)), (7, AV.one (A1.v (Value.bool y1))), (8, AV.one (A1.p true 8 [] 0)),
                (9, AV.one (A1.r 9 [] 0)), (10, AV.one (A1.v (Value.bool y2))), (11, AV.one (A1.v (Value.int IntKind.i64 1)))]
              [(2, some { kind := Kind.box, row := [D.v (Value.int IntKind.i64 y3), D.s y4], fl := [Own.deep, Own.sh] }),
                (6, some { kind := Kind.virt, row := [D.s y5, D.h], fl := [Own.deep, Own.sh] }),
                (8, some { kind := Kind.box, row := [D.v (Value.int IntKind.i64 y6), D.s y7], fl := [Own.deep, Own.deep] }),
                (9, some { kind := Kind.virt, row := [D.s y8, D.h], fl := [Own.deep, Own.sh] })])
            k
      else none
  else none := by
  refine cut_use 8 1 10 rfl (c4) (by kernel_rfl) fun K e1 => ?_
  try simp only [← e1]
  clear e1
  kernel_rfl
theorem r4c10 (call : CallT) (lp : Code → St → Option (Ex × St)) (k : Ex → St → Option Res) (y0 : Int) (y1 : Bool) (y2 : Bool) (y3 : Int) (y4 : Int) (y5 : List (List D)) (y6 : List (List D)) (y7 : Int) (y8 : List (List D)) (y9 : List (List D)) :
    evK (Y.ctx call) 4 lp (dropC 10 c4)
  (mk 0 101
    [(1, AV.one (A1.v (Value.int IntKind.i64 y0))), (2, AV.one (A1.p true 2 [] 0)), (6, AV.one (A1.r 6 [] 0)), (7, AV.one (A1.v (Value.bool y1))), (8, AV.one (A1.p true 8 [] 0)),
      (9, AV.one (A1.r 9 [] 0)), (10, AV.one (A1.v (Value.bool y2))), (11, AV.one (A1.v (Value.int IntKind.i64 y3)))]
    [(2, some { kind := Kind.box, row := [D.v (Value.int IntKind.i64 y4), D.s y5], fl := [Own.deep, Own.sh] }), (6, some { kind := Kind.virt, row := [D.s y6, D.h], fl := [Own.deep, Own.sh] }),
      (8, some { kind := Kind.box, row := [D.v (Value.int IntKind.i64 y7), D.s y8], fl := [Own.deep, Own.deep] }), (9, some { kind := Kind.virt, row := [D.s y9, D.h], fl := [Own.deep, Own.sh] })])
  k =
    (call 17 [AV.g [A1.v (Value.int IntKind.i64 y7), A1.r 0 [] 0], AV.one (A1.v (Value.int IntKind.i64 y3))] [{ kind := Kind.virt, row := [D.s y8], fl := [Own.deep] }]).bind fun val =>
  bif fitsCells [R1.int IntKind.i64] val.1 && true then
    bif decide ((val.1.getD 0 TC.d).int < 0) then k Ex.ret (mk 0 101 [(4, AV.one (A1.v (Value.bool false)))] [])
    else
      (call 14 [AV.one (A1.s y9), AV.one (A1.s y6)] []).bind fun val =>
        bif fitsCells [R1.bool] val.1 && true then
          bif !(val.1.getD 0 TC.d).bool then k Ex.ret (mk 0 101 [(4, AV.one (A1.v (Value.bool false)))] [])
          else
            bif !y2 == y1 then k Ex.ret (mk 0 101 [(4, AV.one (A1.v (Value.bool false)))] [])
            else
              evK (Y.ctx call) 4 lp (dropC 12 c4)
                (mk 0 101 [(1, AV.one (A1.v (Value.int IntKind.i64 y0))), (2, AV.one (A1.p true 2 [] 0)), (6, AV.one (A1.r 6 [] 0)), (7, AV.one (A1.v (Value.bool y1))), (9, AV.one (A1.r 9 [] 0))]
                  [(2, some { kind := Kind.box, row := [D.v (Value.int IntKind.i64 y4), D.s y5], fl := [Own.deep, Own.sh] }),
                    (6, some { kind := Kind.virt, row := [D.s y6, D.h], fl := [Own.deep, Own.sh] }), (9, some { kind := Kind.virt, row := [D.s y9, D.h], fl := [Own.deep, Own.sh] })])
                k
        else none
  else none := by
  refine cut_use 10 1 12 rfl (c4) (by kernel_rfl) fun K e1 => ?_
  try simp only [← e1]
  clear e1
  kernel_rfl
theorem r4c12 (call : CallT) (lp : Code → St → Option (Ex × St)) (k : Ex → St → Option Res) (y0 : Int) (y1 : Bool) (y2 : Int) (y3 : List (List D)) (y4 : List (List D)) (y5 : List (List D)) :
    evK (Y.ctx call) 4 lp (dropC 12 c4)
  (mk 0 101 [(1, AV.one (A1.v (Value.int IntKind.i64 y0))), (2, AV.one (A1.p true 2 [] 0)), (6, AV.one (A1.r 6 [] 0)), (7, AV.one (A1.v (Value.bool y1))), (9, AV.one (A1.r 9 [] 0))]
    [(2, some { kind := Kind.box, row := [D.v (Value.int IntKind.i64 y2), D.s y3], fl := [Own.deep, Own.sh] }), (6, some { kind := Kind.virt, row := [D.s y4, D.h], fl := [Own.deep, Own.sh] }),
      (9, some { kind := Kind.virt, row := [D.s y5, D.h], fl := [Own.deep, Own.sh] })])
  k =
    (call 18 [AV.one (A1.r 0 [] 0), AV.one (A1.v (Value.int IntKind.i64 1))] [{ kind := Kind.virt, row := [D.s y5], fl := [Own.deep] }]).bind fun val =>
  bif fitsCells [R1.int IntKind.i64] val.1 && fitsCos [{ ob := { kind := Kind.virt, row := [D.s y5], fl := [Own.deep] }, src := Src.sl 9 [] 0 }] val.2 then
    (call 19 [AV.one (A1.s ((val.2.getD 0 { kind := Kind.ro, row := [], fl := [] }).2.getD 0 D.h).es), AV.one (A1.v (Value.int IntKind.i64 1))] []).bind fun val_1 =>
      bif fitsCells [R1.int IntKind.i64] val_1.1 && true then
        evK (Y.ctx call) 4 lp (dropC 16 c4)
          (mk 0 101
            [(1, AV.one (A1.v (Value.int IntKind.i64 y0))), (2, AV.one (A1.p true 2 [] 0)), (6, AV.one (A1.r 6 [] 0)), (7, AV.one (A1.v (Value.bool y1))), (9, AV.one (A1.r 9 [] 0)),
              (12, AV.one (A1.v (Value.int IntKind.i64 (val.1.getD 0 TC.d).int))), (13, AV.one (A1.v (Value.int IntKind.i64 (val_1.1.getD 0 TC.d).int)))]
            [(2, some { kind := Kind.box, row := [D.v (Value.int IntKind.i64 y2), D.s y3], fl := [Own.deep, Own.sh] }), (6, some { kind := Kind.virt, row := [D.s y4, D.h], fl := [Own.deep, Own.sh] }),
              (9, some { kind := Kind.virt, row := [D.s ((val.2.getD 0 { kind := Kind.ro, row := [], fl := [] }).2.getD 0 D.h).es, D.h], fl := [Own.deep, Own.sh] })])
          k
      else none
  else none := by
  refine cut_use 12 3 16 rfl (c4) (by kernel_rfl) fun K e1 => ?_
  try simp only [← e1]
  clear e1
  kernel_rfl
theorem r4c16 (call : CallT) (lp : Code → St → Option (Ex × St)) (k : Ex → St → Option Res) (y0 : Int) (y1 : Bool) (y2 : Int) (y3 : Int) (y4 : Int) (y5 : List (List D)) (y6 : List (List D)) (y7 : List (List D)) :
    evK (Y.ctx call) 4 lp (dropC 16 c4)
  (mk 0 101
    [(1, AV.one (A1.v (Value.int IntKind.i64 y0))), (2, AV.one (A1.p true 2 [] 0)), (6, AV.one (A1.r 6 [] 0)), (7, AV.one (A1.v (Value.bool y1))), (9, AV.one (A1.r 9 [] 0)),
      (12, AV.one (A1.v (Value.int IntKind.i64 y2))), (13, AV.one (A1.v (Value.int IntKind.i64 y3)))]
    [(2, some { kind := Kind.box, row := [D.v (Value.int IntKind.i64 y4), D.s y5], fl := [Own.deep, Own.sh] }), (6, some { kind := Kind.virt, row := [D.s y6, D.h], fl := [Own.deep, Own.sh] }),
      (9, some { kind := Kind.virt, row := [D.s y7, D.h], fl := [Own.deep, Own.sh] })])
  k =
    bif decide (y3 < 0) then k Ex.ret (mk 0 101 [(4, AV.one (A1.v (Value.bool false)))] [])
else
  bif y3 != y2 then k Ex.ret (mk 0 101 [(4, AV.one (A1.v (Value.bool false)))] [])
  else
    (call 10 [AV.g [A1.v (Value.int IntKind.i64 y4), A1.s y5]] []).bind fun val =>
      bif fitsCells [R1.int IntKind.i64, R1.own Own.deep] val.1 && true then
        (call 16 [AV.g [A1.v (Value.int IntKind.i64 (val.1.getD 0 TC.d).int), A1.s (val.1.getD 1 TC.d).es], AV.one (A1.v (Value.int IntKind.i64 y0))] []).bind fun val =>
          bif fitsCells [R1.own Own.deep, R1.bool] val.1 && true then
            evK (Y.ctx call) 4 lp (dropC 19 c4)
              (mk 0 101
                [(6, AV.one (A1.r 6 [] 0)), (7, AV.one (A1.v (Value.bool y1))), (9, AV.one (A1.r 9 [] 0)), (12, AV.one (A1.v (Value.int IntKind.i64 y2))), (14, AV.one (A1.r 14 [] 0)),
                  (15, AV.one (A1.v (Value.bool (val.1.getD 1 TC.d).bool)))]
                [(6, some { kind := Kind.virt, row := [D.s y6, D.h], fl := [Own.deep, Own.sh] }), (9, some { kind := Kind.virt, row := [D.s y7, D.h], fl := [Own.deep, Own.sh] }),
                  (14, some { kind := Kind.virt, row := [D.s (val.1.getD 0 TC.d).es, D.h], fl := [Own.deep, Own.sh] })])
              k
          else none
      else none := by
  refine cut_use 16 2 19 rfl (c4) (by kernel_rfl) fun K e1 => ?_
  try simp only [← e1]
  clear e1
  kernel_rfl
theorem r4c19 (call : CallT) (lp : Code → St → Option (Ex × St)) (k : Ex → St → Option Res) (y0 : Bool) (y1 : Int) (y2 : Bool) (y3 : List (List D)) (y4 : List (List D)) (y5 : List (List D)) :
    evK (Y.ctx call) 4 lp (dropC 19 c4)
  (mk 0 101
    [(6, AV.one (A1.r 6 [] 0)), (7, AV.one (A1.v (Value.bool y0))), (9, AV.one (A1.r 9 [] 0)), (12, AV.one (A1.v (Value.int IntKind.i64 y1))), (14, AV.one (A1.r 14 [] 0)),
      (15, AV.one (A1.v (Value.bool y2)))]
    [(6, some { kind := Kind.virt, row := [D.s y3, D.h], fl := [Own.deep, Own.sh] }), (9, some { kind := Kind.virt, row := [D.s y4, D.h], fl := [Own.deep, Own.sh] }),
      (14, some { kind := Kind.virt, row := [D.s y5, D.h], fl := [Own.deep, Own.sh] })])
  k =
    (call 14 [AV.one (A1.s y5), AV.one (A1.s y3)] []).bind fun val =>
  bif fitsCells [R1.bool] val.1 && true then
    bif !(val.1.getD 0 TC.d).bool then k Ex.ret (mk 0 101 [(4, AV.one (A1.v (Value.bool false)))] [])
    else
      bif !y2 == y0 then k Ex.ret (mk 0 101 [(4, AV.one (A1.v (Value.bool false)))] [])
      else
        evK (Y.ctx call) 4 lp (dropC 20 c4)
          (mk 0 101 [(9, AV.one (A1.r 9 [] 0)), (12, AV.one (A1.v (Value.int IntKind.i64 y1)))] [(9, some { kind := Kind.virt, row := [D.s y4, D.h], fl := [Own.deep, Own.sh] })]) k
  else none := by
  refine cut_use 19 0 20 rfl (c4) (by kernel_rfl) fun K e1 => ?_
  try simp only [← e1]
  clear e1
  kernel_rfl
theorem r4c20 (call : CallT) (lp : Code → St → Option (Ex × St)) (k : Ex → St → Option Res) (y0 : Int) (y1 : List (List D)) :
    evK (Y.ctx call) 4 lp (dropC 20 c4)
  (mk 0 101 [(9, AV.one (A1.r 9 [] 0)), (12, AV.one (A1.v (Value.int IntKind.i64 y0)))] [(9, some { kind := Kind.virt, row := [D.s y1, D.h], fl := [Own.deep, Own.sh] })]) k =
    (call 19 [AV.one (A1.s y1), AV.one (A1.v (Value.int IntKind.i64 1))] []).bind fun val =>
  bif fitsCells [R1.int IntKind.i64] val.1 && true then
    bif decide ((val.1.getD 0 TC.d).int < 0) then k Ex.ret (mk 0 101 [(4, AV.one (A1.v (Value.bool false)))] [])
    else bif (val.1.getD 0 TC.d).int != y0 then k Ex.ret (mk 0 101 [(4, AV.one (A1.v (Value.bool false)))] []) else evK (Y.ctx call) 4 lp (dropC 24 c4) (mk 0 101 [] []) k
  else none := by
  refine cut_use 20 3 24 rfl (c4) (by kernel_rfl) fun K e1 => ?_
  try simp only [← e1]
  clear e1
  kernel_rfl
theorem r4c24 (call : CallT) (lp : Code → St → Option (Ex × St)) :
    evK (Y.ctx call) 4 lp (dropC 24 c4) (mk 0 101 [] []) (outE (Y.ctx call) 4 Try.f4) =
    some { cells := [TC.v (Value.bool true)], objs := [] } := by kernel_rfl

theorem r7 (call : CallT) (lp : Code → St → Option (Ex × St)) (a0 : Int) (a1 : List (List D)) (a2 : Int) :
    evK (Y.ctx call) 7 lp c7 (initSt Try.f7 [AV.g [A1.v (Value.int IntKind.i64 a0), A1.s a1], AV.one (A1.v (Value.int IntKind.i64 a2))] []) (outE (Y.ctx call) 7 Try.f7) =
    (call 29 [AV.one (A1.s a1), AV.one (A1.v (Value.int IntKind.i64 a2))] []).bind fun val =>
  bif fitsCells [R1.int IntKind.i64] val.1 && true then
    bif decide ((val.1.getD 0 TC.d).int < 0) then some { cells := [TC.v (Value.int IntKind.i64 (-1))], objs := [] }
    else some { cells := [TC.v (Value.int IntKind.i64 (val.1.getD 0 TC.d).int)], objs := [] }
  else none := by kernel_rfl

theorem r8 (call : CallT) (lp : Code → St → Option (Ex × St)) (a0 : List (List D)) (a1 : Int) :
    evK (Y.ctx call) 8 lp c8 (initSt Try.f8 [AV.one (A1.s a0), AV.one (A1.v (Value.int IntKind.i64 a1))] []) (outE (Y.ctx call) 8 Try.f8) =
    bif decide (IntKind.i64.wrap (a1 - (↑a0.length : Int)) < 0) then some { cells := [TC.v (Value.int IntKind.i64 (-1))], objs := [] }
else
  (lp (bodyAt 5 c8) (mk 0 28 [(0, AV.one (A1.s a0)), (1, AV.one (A1.v (Value.int IntKind.i64 (IntKind.i64.wrap (a1 - (↑a0.length : Int)))))), (5, AV.one (A1.v (Value.int IntKind.i64 0)))] [])).bind
    fun r => evA (Y.ctx call) 8 lp 5 c8 r.fst r.snd (outE (Y.ctx call) 8 Try.f8) := by kernel_rfl
theorem r8_5 (call : CallT) (lp : Code → St → Option (Ex × St)) (y0 : List (List D)) (y1 : Int) (y2 : Int) :
    evK (Y.ctx call) 8 lp (bodyAt 5 c8) (mk 0 28 [(0, AV.one (A1.s y0)), (1, AV.one (A1.v (Value.int IntKind.i64 y1))), (5, AV.one (A1.v (Value.int IntKind.i64 y2)))] []) (outL ((Y.ctx call).live 8 5)) =
    bif decide (y2 < (↑y0.length : Int)) then
  bif decide (0 ≤ y2) && decide (y2 < (↑y0.length : Int)) && decide ((y0.getD y2.toNat []).length = 1) then
    bif fitsRow [CK.str] (y0.getD y2.toNat []) 0 && decide (1 ≤ (y0.getD y2.toNat []).length) then
      bif decide (IntKind.i64.wrap (y1 - (↑((y0.getD y2.toNat []).getD 0 D.h).str.size : Int)) < 0) then
        some
          (Ex.ret,
            mk 0 28 [(1, AV.one (A1.v (Value.int IntKind.i64 (IntKind.i64.wrap (y1 - (↑((y0.getD y2.toNat []).getD 0 D.h).str.size : Int)))))), (4, AV.one (A1.v (Value.int IntKind.i64 (-1))))] [])
      else
        some
          (Ex.normal,
            mk 0 28
              [(0, AV.one (A1.s y0)), (1, AV.one (A1.v (Value.int IntKind.i64 (IntKind.i64.wrap (y1 - (↑((y0.getD y2.toNat []).getD 0 D.h).str.size : Int)))))),
                (5, AV.one (A1.v (Value.int IntKind.i64 (IntKind.i64.wrap (y2 + 1)))))]
              [])
    else none
  else none
else some (Ex.exit 0, mk 0 28 [(1, AV.one (A1.v (Value.int IntKind.i64 y1)))] []) := by kernel_rfl
theorem r8_5r (call : CallT) (lp : Code → St → Option (Ex × St)) (z0 : Int) (z1 : Int) :
    evA (Y.ctx call) 8 lp 5 c8 Ex.ret (mk 0 28 [(1, AV.one (A1.v (Value.int IntKind.i64 z0))), (4, AV.one (A1.v (Value.int IntKind.i64 z1)))] []) (outE (Y.ctx call) 8 Try.f8) =
    some { cells := [TC.v (Value.int IntKind.i64 z1)], objs := [] } := by kernel_rfl
theorem r8_5x (call : CallT) (lp : Code → St → Option (Ex × St)) (z0 : Int) :
    evA (Y.ctx call) 8 lp 5 c8 (Ex.exit 0) (mk 0 28 [(1, AV.one (A1.v (Value.int IntKind.i64 z0)))] []) (outE (Y.ctx call) 8 Try.f8) =
    some { cells := [TC.v (Value.int IntKind.i64 z0)], objs := [] } := by kernel_rfl

theorem r9 (call : CallT) (lp : Code → St → Option (Ex × St)) (a0 : Int) (a1 : List (List D)) (a2 : List (List D)) :
    evK (Y.ctx call) 9 lp c9 (initSt Try.f9 [AV.g [A1.v (Value.int IntKind.i64 a0), A1.s a1], AV.one (A1.s a2)] []) (outE (Y.ctx call) 9 Try.f9) =
    (call 30 [AV.g [A1.v (Value.int IntKind.i64 a0), A1.s a1]] []).bind fun val =>
  bif fitsCells [R1.bool] val.1 && true then
    bif !(val.1.getD 0 TC.d).bool then some { cells := [TC.v (Value.int IntKind.i64 0)], objs := [] }
    else
      (call 31 [AV.g [A1.v (Value.int IntKind.i64 a0), A1.s a1], AV.one (A1.s a2)] []).bind fun val =>
        bif fitsCells [R1.int IntKind.i64] val.1 && true then some { cells := [TC.v (Value.int IntKind.i64 (val.1.getD 0 TC.d).int)], objs := [] } else none
  else none := by kernel_rfl

theorem r10 (call : CallT) (lp : Code → St → Option (Ex × St)) (a0 : Int) (a1 : List (List D)) :
    evK (Y.ctx call) 10 lp c10 (initSt Try.f10 [AV.g [A1.v (Value.int IntKind.i64 a0), A1.s a1]] []) (outE (Y.ctx call) 10 Try.f10) =
    (call 32 [AV.one (A1.s a1)] []).bind fun val =>
  bif fitsCells [R1.own Own.deep] val.1 && true then some { cells := [TC.v (Value.int IntKind.i64 a0), TC.o Own.deep (val.1.getD 0 TC.d).es], objs := [] } else none := by kernel_rfl

theorem r11 (call : CallT) (lp : Code → St → Option (Ex × St)) (a0 : List (List D)) :
    evK (Y.ctx call) 11 lp c11 (initSt Try.f11 [AV.one (A1.s a0)] []) (outE (Y.ctx call) 11 Try.f11) =
    bif decide ((↑a0.length : Int) * ((↑16 : Int) + 1) ≤ 2 ^ 46) && true && true then
  (lp (bodyAt 3 c11)
        (mk 0 22 [(0, AV.one (A1.s a0)), (3, AV.one (A1.r 3 [] 0)), (4, AV.one (A1.v (Value.int IntKind.i64 0)))]
          [(3, some { kind := Kind.virt, row := [D.s (List.replicate (↑a0.length : Int).toNat [D.v (Value.string { data := #[] })])], fl := [Own.deep] })])).bind
    fun r => evA (Y.ctx call) 11 lp 3 c11 r.fst r.snd (outE (Y.ctx call) 11 Try.f11)
else none := by kernel_rfl
theorem r11_3 (call : CallT) (lp : Code → St → Option (Ex × St)) (y0 : List (List D)) (y1 : Int) (y2 : List (List D)) :
    evK (Y.ctx call) 11 lp (bodyAt 3 c11)
  (mk 0 22 [(0, AV.one (A1.s y0)), (3, AV.one (A1.r 3 [] 0)), (4, AV.one (A1.v (Value.int IntKind.i64 y1)))] [(3, some { kind := Kind.virt, row := [D.s y2], fl := [Own.deep] })])
  (outL ((Y.ctx call).live 11 3)) =
    bif decide (y1 < (↑y0.length : Int)) then
  bif decide (0 ≤ y1) && decide (y1 < (↑y0.length : Int)) && decide ((y0.getD y1.toNat []).length = 1) then
    bif fitsRow [CK.str] (y0.getD y1.toNat []) 0 && decide (1 ≤ (y0.getD y1.toNat []).length) then
      bif decide (0 ≤ y1) && decide (y1 < (↑y2.length : Int)) && decide ((y2.getD y1.toNat []).length = 1) then
        bif decide (1 ≤ (y2.getD y1.toNat []).length) && true then
          some
            (Ex.normal,
              mk 0 22 [(0, AV.one (A1.s y0)), (3, AV.one (A1.r 3 [] 0)), (4, AV.one (A1.v (Value.int IntKind.i64 (IntKind.i64.wrap (y1 + 1)))))]
                [(3, some { kind := Kind.virt, row := [D.s (y2.set y1.toNat (D.v (Value.string ((y0.getD y1.toNat []).getD 0 D.h).str) :: List.drop 1 (y2.getD y1.toNat [])))], fl := [Own.deep] })])
        else none
      else none
    else none
  else none
else some (Ex.exit 0, mk 0 22 [(3, AV.one (A1.r 3 [] 0))] [(3, some { kind := Kind.virt, row := [D.s y2], fl := [Own.deep] })]) := by kernel_rfl
theorem r11_3x (call : CallT) (lp : Code → St → Option (Ex × St)) (z0 : List (List D)) :
    evA (Y.ctx call) 11 lp 3 c11 (Ex.exit 0) (mk 0 22 [(3, AV.one (A1.r 3 [] 0))] [(3, some { kind := Kind.virt, row := [D.s z0], fl := [Own.deep] })]) (outE (Y.ctx call) 11 Try.f11) =
    some { cells := [TC.o Own.deep z0], objs := [] } := by kernel_rfl

theorem r12 (call : CallT) (lp : Code → St → Option (Ex × St)) (a0 : Int) (a1 : List (List D)) (a2 : List (List D)) :
    evK (Y.ctx call) 12 lp c12 (initSt Try.f12 [AV.g [A1.v (Value.int IntKind.i64 a0), A1.s a1], AV.one (A1.s a2)] []) (outE (Y.ctx call) 12 Try.f12) =
    (call 33 [AV.g [A1.v (Value.int IntKind.i64 a0), A1.s a1]] []).bind fun val =>
  bif fitsCells [R1.bool] val.1 && true then
    bif (val.1.getD 0 TC.d).bool then
      (lp (bodyAt 3 c12)
            (mk 0 23 [(1, AV.one (A1.s a2)), (10, AV.one (A1.s a1)), (11, AV.one (A1.v (Value.int IntKind.i64 (↑a1.length : Int)))), (12, AV.one (A1.v (Value.int IntKind.i64 0)))] [])).bind
        fun r => evA (Y.ctx call) 12 lp 3 c12 r.fst r.snd (outE (Y.ctx call) 12 Try.f12)
    else some { cells := [TC.v (Value.int IntKind.i64 0)], objs := [] }
  else none := by kernel_rfl
theorem r12_3 (call : CallT) (lp : Code → St → Option (Ex × St)) (y0 : List (List D)) (y1 : List (List D)) (y2 : Int) (y3 : Int) :
    evK (Y.ctx call) 12 lp (bodyAt 3 c12) (mk 0 23 [(1, AV.one (A1.s y0)), (10, AV.one (A1.s y1)), (11, AV.one (A1.v (Value.int IntKind.i64 y2))), (12, AV.one (A1.v (Value.int IntKind.i64 y3)))] [])
  (outL ((Y.ctx call).live 12 3)) =
    bif decide (y3 < y2) then
  bif decide (0 ≤ y3) && decide (y3 < (↑y1.length : Int)) && decide ((y1.getD y3.toNat []).length = 2) then
    bif fitsRow [CK.int IntKind.i64, CK.sl] (y1.getD y3.toNat []) 0 && decide (2 ≤ (y1.getD y3.toNat []).length) then
      (call 34 [AV.one (A1.s ((y1.getD y3.toNat []).getD 1 D.h).es), AV.one (A1.s y0)] []).bind fun val =>
        bif fitsCells [R1.bool] val.1 && true then
          bif (val.1.getD 0 TC.d).bool then some (Ex.ret, mk 0 23 [(4, AV.one (A1.v (Value.int IntKind.i64 ((y1.getD y3.toNat []).getD 0 D.h).int)))] [])
          else
            some
              (Ex.normal,
                mk 0 23 [(1, AV.one (A1.s y0)), (10, AV.one (A1.s y1)), (11, AV.one (A1.v (Value.int IntKind.i64 y2))), (12, AV.one (A1.v (Value.int IntKind.i64 (IntKind.i64.wrap (y3 + 1)))))] [])
        else none
    else none
  else none
else some (Ex.exit 0, mk 0 23 [] []) := by kernel_rfl
theorem r12_3r (call : CallT) (lp : Code → St → Option (Ex × St)) (z0 : Int) :
    evA (Y.ctx call) 12 lp 3 c12 Ex.ret (mk 0 23 [(4, AV.one (A1.v (Value.int IntKind.i64 z0)))] []) (outE (Y.ctx call) 12 Try.f12) =
    some { cells := [TC.v (Value.int IntKind.i64 z0)], objs := [] } := by kernel_rfl
theorem r12_3x (call : CallT) (lp : Code → St → Option (Ex × St)) :
    evA (Y.ctx call) 12 lp 3 c12 (Ex.exit 0) (mk 0 23 [] []) (outE (Y.ctx call) 12 Try.f12) =
    some { cells := [TC.v (Value.int IntKind.i64 0)], objs := [] } := by kernel_rfl

theorem r13 (call : CallT) (lp : Code → St → Option (Ex × St)) (a0 : Int) (a1 : List (List D)) (a2 : Int) (a3 : List (List D)) :
    evK (Y.ctx call) 13 lp c13 (initSt Try.f13 [AV.g [A1.v (Value.int IntKind.i64 a0), A1.s a1], AV.g [A1.v (Value.int IntKind.i64 a2), A1.s a3]] []) (outE (Y.ctx call) 13 Try.f13) =
    bif a0 != a2 then some { cells := [TC.v (Value.bool false)], objs := [] }
else
  (call 35 [AV.one (A1.s a1), AV.one (A1.s a3)] []).bind fun val =>
    bif fitsCells [R1.bool] val.1 && true then bif !(val.1.getD 0 TC.d).bool then some { cells := [TC.v (Value.bool false)], objs := [] } else some { cells := [TC.v (Value.bool true)], objs := [] }
    else none := by kernel_rfl

theorem r14 (call : CallT) (lp : Code → St → Option (Ex × St)) (a0 : List (List D)) (a1 : List (List D)) :
    evK (Y.ctx call) 14 lp c14 (initSt Try.f14 [AV.one (A1.s a0), AV.one (A1.s a1)] []) (outE (Y.ctx call) 14 Try.f14) =
    bif (↑a0.length : Int) != (↑a1.length : Int) then some { cells := [TC.v (Value.bool false)], objs := [] }
else
  (lp (bodyAt 4 c14) (mk 0 26 [(0, AV.one (A1.s a0)), (1, AV.one (A1.s a1)), (5, AV.one (A1.v (Value.int IntKind.i64 0)))] [])).bind fun r =>
    evA (Y.ctx call) 14 lp 4 c14 r.fst r.snd (outE (Y.ctx call) 14 Try.f14) := by kernel_rfl
theorem r14_4 (call : CallT) (lp : Code → St → Option (Ex × St)) (y0 : List (List D)) (y1 : List (List D)) (y2 : Int) :
    evK (Y.ctx call) 14 lp (bodyAt 4 c14) (mk 0 26 [(0, AV.one (A1.s y0)), (1, AV.one (A1.s y1)), (5, AV.one (A1.v (Value.int IntKind.i64 y2)))] []) (outL ((Y.ctx call).live 14 4)) =
    bif decide (y2 < (↑y0.length : Int)) then
  bif decide (0 ≤ y2) && decide (y2 < (↑y0.length : Int)) && decide ((y0.getD y2.toNat []).length = 1) then
    bif fitsRow [CK.str] (y0.getD y2.toNat []) 0 && decide (1 ≤ (y0.getD y2.toNat []).length) then
      bif decide (0 ≤ y2) && decide (y2 < (↑y1.length : Int)) && decide ((y1.getD y2.toNat []).length = 1) then
        bif fitsRow [CK.str] (y1.getD y2.toNat []) 0 && decide (1 ≤ (y1.getD y2.toNat []).length) then
          bif !((y0.getD y2.toNat []).getD 0 D.h).str.toList == ((y1.getD y2.toNat []).getD 0 D.h).str.toList then some (Ex.ret, mk 0 26 [(4, AV.one (A1.v (Value.bool false)))] [])
          else some (Ex.normal, mk 0 26 [(0, AV.one (A1.s y0)), (1, AV.one (A1.s y1)), (5, AV.one (A1.v (Value.int IntKind.i64 (IntKind.i64.wrap (y2 + 1)))))] [])
        else none
      else none
    else none
  else none
else some (Ex.exit 0, mk 0 26 [] []) := by kernel_rfl
theorem r14_4r (call : CallT) (lp : Code → St → Option (Ex × St)) (z0 : Bool) :
    evA (Y.ctx call) 14 lp 4 c14 Ex.ret (mk 0 26 [(4, AV.one (A1.v (Value.bool z0)))] []) (outE (Y.ctx call) 14 Try.f14) =
    some { cells := [TC.v (Value.bool z0)], objs := [] } := by kernel_rfl
theorem r14_4x (call : CallT) (lp : Code → St → Option (Ex × St)) :
    evA (Y.ctx call) 14 lp 4 c14 (Ex.exit 0) (mk 0 26 [] []) (outE (Y.ctx call) 14 Try.f14) =
    some { cells := [TC.v (Value.bool true)], objs := [] } := by kernel_rfl

theorem r15 (call : CallT) (lp : Code → St → Option (Ex × St)) (a0 : Int) (a1 : List (List D)) (a2 : Int) :
    evK (Y.ctx call) 15 lp c15 (initSt Try.f15 [AV.g [A1.v (Value.int IntKind.i64 a0), A1.s a1], AV.one (A1.v (Value.int IntKind.i64 a2))] []) (outE (Y.ctx call) 15 Try.f15) =
    (lp (bodyAt 2 c15)
      (mk 0 35 [(1, AV.one (A1.v (Value.int IntKind.i64 a2))), (2, AV.one (A1.p true 2 [] 0)), (6, AV.one (A1.v (Value.int IntKind.i64 0)))]
        [(2, some { kind := Kind.box, row := [D.v (Value.int IntKind.i64 a0), D.s a1], fl := [Own.deep, Own.sh] })])).bind
  fun r => evA (Y.ctx call) 15 lp 2 c15 r.fst r.snd (outE (Y.ctx call) 15 Try.f15) := by kernel_rfl
theorem r15_2 (call : CallT) (lp : Code → St → Option (Ex × St)) (y0 : Int) (y1 : Int) (y2 : Int) (y3 : List (List D)) :
    evK (Y.ctx call) 15 lp (bodyAt 2 c15)
  (mk 0 35 [(1, AV.one (A1.v (Value.int IntKind.i64 y0))), (2, AV.one (A1.p true 2 [] 0)), (6, AV.one (A1.v (Value.int IntKind.i64 y1)))]
    [(2, some { kind := Kind.box, row := [D.v (Value.int IntKind.i64 y2), D.s y3], fl := [Own.deep, Own.sh] })])
  (outL ((Y.ctx call).live 15 2)) =
    bif decide (y1 < (↑y3.length : Int)) then
  (call 30 [AV.g [A1.v (Value.int IntKind.i64 y2), A1.s y3]] []).bind fun val =>
    bif fitsCells [R1.bool] val.1 && true then
      bif (val.1.getD 0 TC.d).bool then
        bif decide (0 ≤ y1) && decide (y1 < (↑y3.length : Int)) && decide ((y3.getD y1.toNat []).length = 2) then
          bif fitsRow [CK.int IntKind.i64] (y3.getD y1.toNat []) 0 && decide (1 ≤ (y3.getD y1.toNat []).length) then
            bif ((y3.getD y1.toNat []).getD 0 D.h).int == y0 then
              bif decide (0 ≤ y1) && decide (y1 < (↑y3.length : Int)) && decide ((y3.getD y1.toNat []).length = 2) then
                bif fitsRow [CK.sl] (y3.getD y1.toNat []) 1 && decide (2 ≤ (y3.getD y1.toNat []).length) then
                  bif
                      rowsLen 1 ((y3.getD y1.toNat []).getD 1 D.h).es && rowsCell false ((y3.getD y1.toNat []).getD 1 D.h).es && true &&
                        decide ((0 + ((y3.getD y1.toNat []).getD 1 D.h).es.length) * 17 ≤ 70368744177664) then
                    some
                      (Ex.ret,
                        mk 0 35 [(4, AV.one (A1.r 4 [] 0)), (5, AV.one (A1.v (Value.bool true)))]
                          [(4, some { kind := Kind.virt, row := [D.s ((y3.getD y1.toNat []).getD 1 D.h).es], fl := [Own.deep] })])
                  else none
                else none
              else none
            else
              some
                (Ex.normal,
                  mk 0 35 [(1, AV.one (A1.v (Value.int IntKind.i64 y0))), (2, AV.one (A1.p true 2 [] 0)), (6, AV.one (A1.v (Value.int IntKind.i64 (IntKind.i64.wrap (y1 + 1)))))]
                    [(2, some { kind := Kind.box, row := [D.v (Value.int IntKind.i64 y2), D.s y3], fl := [Own.deep, Own.sh] })])
          else none
        else none
      else some (Ex.exit 0, mk 0 35 [] [])
    else none
else some (Ex.exit 0, mk 0 35 [] []) := by kernel_rfl
theorem r15_2r (call : CallT) (lp : Code → St → Option (Ex × St)) (z0 : Bool) (z1 : List (List D)) :
    evA (Y.ctx call) 15 lp 2 c15 Ex.ret (mk 0 35 [(4, AV.one (A1.r 4 [] 0)), (5, AV.one (A1.v (Value.bool z0)))] [(4, some { kind := Kind.virt, row := [D.s z1], fl := [Own.deep] })])
  (outE (Y.ctx call) 15 Try.f15) =
    some { cells := [TC.o Own.deep z1, TC.v (Value.bool z0)], objs := [] } := by kernel_rfl
theorem r15_2x (call : CallT) (lp : Code → St → Option (Ex × St)) :
    evA (Y.ctx call) 15 lp 2 c15 (Ex.exit 0) (mk 0 35 [] []) (outE (Y.ctx call) 15 Try.f15) =
    some { cells := [TC.o Own.deep [], TC.v (Value.bool false)], objs := [] } := by kernel_rfl

theorem r16 (call : CallT) (lp : Code → St → Option (Ex × St)) (a0 : Int) (a1 : List (List D)) (a2 : Int) :
    evK (Y.ctx call) 16 lp c16 (initSt Try.f16 [AV.g [A1.v (Value.int IntKind.i64 a0), A1.s a1], AV.one (A1.v (Value.int IntKind.i64 a2))] []) (outE (Y.ctx call) 16 Try.f16) =
    (call 33 [AV.g [A1.v (Value.int IntKind.i64 a0), A1.s a1]] []).bind fun val =>
  bif fitsCells [R1.bool] val.1 && true then
    bif (val.1.getD 0 TC.d).bool then
      (lp (bodyAt 3 c16)
            (mk 0 27
              [(1, AV.one (A1.v (Value.int IntKind.i64 a2))), (11, AV.one (A1.s a1)), (12, AV.one (A1.v (Value.int IntKind.i64 (↑a1.length : Int)))), (13, AV.one (A1.v (Value.int IntKind.i64 0)))]
              [])).bind
        fun r => evA (Y.ctx call) 16 lp 3 c16 r.fst r.snd (outE (Y.ctx call) 16 Try.f16)
    else some { cells := [TC.o Own.deep [], TC.v (Value.bool false)], objs := [] }
  else none := by kernel_rfl
theorem r16_3 (call : CallT) (lp : Code → St → Option (Ex × St)) (y0 : Int) (y1 : List (List D)) (y2 : Int) (y3 : Int) :
    evK (Y.ctx call) 16 lp (bodyAt 3 c16)
  (mk 0 27 [(1, AV.one (A1.v (Value.int IntKind.i64 y0))), (11, AV.one (A1.s y1)), (12, AV.one (A1.v (Value.int IntKind.i64 y2))), (13, AV.one (A1.v (Value.int IntKind.i64 y3)))] [])
  (outL ((Y.ctx call).live 16 3)) =
    bif decide (y3 < y2) then
  bif decide (0 ≤ y3) && decide (y3 < (↑y1.length : Int)) && decide ((y1.getD y3.toNat []).length = 2) then
    bif fitsRow [CK.int IntKind.i64, CK.sl] (y1.getD y3.toNat []) 0 && decide (2 ≤ (y1.getD y3.toNat []).length) then
      bif ((y1.getD y3.toNat []).getD 0 D.h).int == y0 then
        bif
            rowsLen 1 ((y1.getD y3.toNat []).getD 1 D.h).es && rowsCell false ((y1.getD y3.toNat []).getD 1 D.h).es && true &&
              decide ((0 + ((y1.getD y3.toNat []).getD 1 D.h).es.length) * 17 ≤ 70368744177664) then
          some
            (Ex.ret, mk 0 27 [(4, AV.one (A1.r 4 [] 0)), (5, AV.one (A1.v (Value.bool true)))] [(4, some { kind := Kind.virt, row := [D.s ((y1.getD y3.toNat []).getD 1 D.h).es], fl := [Own.deep] })])
        else none
      else
        some
          (Ex.normal,
            mk 0 27
              [(1, AV.one (A1.v (Value.int IntKind.i64 y0))), (11, AV.one (A1.s y1)), (12, AV.one (A1.v (Value.int IntKind.i64 y2))),
                (13, AV.one (A1.v (Value.int IntKind.i64 (IntKind.i64.wrap (y3 + 1)))))]
              [])
    else none
  else none
else some (Ex.exit 0, mk 0 27 [] []) := by kernel_rfl
theorem r16_3r (call : CallT) (lp : Code → St → Option (Ex × St)) (z0 : Bool) (z1 : List (List D)) :
    evA (Y.ctx call) 16 lp 3 c16 Ex.ret (mk 0 27 [(4, AV.one (A1.r 4 [] 0)), (5, AV.one (A1.v (Value.bool z0)))] [(4, some { kind := Kind.virt, row := [D.s z1], fl := [Own.deep] })])
  (outE (Y.ctx call) 16 Try.f16) =
    some { cells := [TC.o Own.deep z1, TC.v (Value.bool z0)], objs := [] } := by kernel_rfl
theorem r16_3x (call : CallT) (lp : Code → St → Option (Ex × St)) :
    evA (Y.ctx call) 16 lp 3 c16 (Ex.exit 0) (mk 0 27 [] []) (outE (Y.ctx call) 16 Try.f16) =
    some { cells := [TC.o Own.deep [], TC.v (Value.bool false)], objs := [] } := by kernel_rfl

theorem r17 (call : CallT) (lp : Code → St → Option (Ex × St)) (a0 : Int) (a1 : List (List D)) (a2 : Int) :
    evK (Y.ctx call) 17 lp c17 (initSt Try.f17 [AV.g [A1.v (Value.int IntKind.i64 a0), A1.r 0 [] 0], AV.one (A1.v (Value.int IntKind.i64 a2))] [{ kind := Kind.virt, row := [D.s a1], fl := [Own.deep] }])
  (outE (Y.ctx call) 17 Try.f17) =
    (call 36 [AV.one (A1.r 0 [] 0), AV.one (A1.v (Value.int IntKind.i64 a2))] [{ kind := Kind.virt, row := [D.s a1], fl := [Own.deep] }]).bind fun val =>
  bif fitsCells [R1.int IntKind.i64] val.1 && fitsCos [{ ob := { kind := Kind.virt, row := [D.s a1], fl := [Own.deep] }, src := Src.sl 3 [] 1 }] val.2 then
    some { cells := [TC.v (Value.int IntKind.i64 (val.1.getD 0 TC.d).int)], objs := [{ kind := Kind.virt, row := [D.h], fl := [Own.deep] }] }
  else none := by kernel_rfl

theorem r18 (call : CallT) (lp : Code → St → Option (Ex × St)) (a0 : List (List D)) (a1 : Int) :
    evK (Y.ctx call) 18 lp c18 (initSt Try.f18 [AV.one (A1.r 0 [] 0), AV.one (A1.v (Value.int IntKind.i64 a1))] [{ kind := Kind.virt, row := [D.s a0], fl := [Own.deep] }]) (outE (Y.ctx call) 18 Try.f18) =
    (lp (bodyAt 2 c18)
      (mk 1 20 [(0, AV.one (A1.r 0 [] 0)), (1, AV.one (A1.v (Value.int IntKind.i64 a1))), (5, AV.one (A1.v (Value.int IntKind.i64 0)))]
        [(0, some { kind := Kind.virt, row := [D.s a0], fl := [Own.deep] })])).bind
  fun r => evA (Y.ctx call) 18 lp 2 c18 r.fst r.snd (outE (Y.ctx call) 18 Try.f18) := by kernel_rfl
theorem r18_2 (call : CallT) (lp : Code → St → Option (Ex × St)) (y0 : Int) (y1 : Int) (y2 : List (List D)) :
    evK (Y.ctx call) 18 lp (bodyAt 2 c18)
  (mk 1 20 [(0, AV.one (A1.r 0 [] 0)), (1, AV.one (A1.v (Value.int IntKind.i64 y0))), (5, AV.one (A1.v (Value.int IntKind.i64 y1)))]
    [(0, some { kind := Kind.virt, row := [D.s y2], fl := [Own.deep] })])
  (outL ((Y.ctx call).live 18 2)) =
    bif decide (y1 < (↑y2.length : Int)) then
  (call 37 [AV.one (A1.v (Value.int IntKind.i64 y0))] []).bind fun val =>
    bif fitsCells [R1.str] val.1 && true then
      bif decide (0 ≤ y1) && decide (y1 < (↑y2.length : Int)) && decide ((y2.getD y1.toNat []).length = 1) then
        bif decide (1 ≤ (y2.getD y1.toNat []).length) && true then
          some
            (Ex.normal,
              mk 1 20 [(0, AV.one (A1.r 0 [] 0)), (1, AV.one (A1.v (Value.int IntKind.i64 (IntKind.i64.wrap (y0 + 1))))), (5, AV.one (A1.v (Value.int IntKind.i64 (IntKind.i64.wrap (y1 + 1)))))]
                [(0, some { kind := Kind.virt, row := [D.s (y2.set y1.toNat (D.v (Value.string (val.1.getD 0 TC.d).str) :: List.drop 1 (y2.getD y1.toNat [])))], fl := [Own.deep] })])
        else none
      else none
    else none
else some (Ex.exit 0, mk 1 20 [(1, AV.one (A1.v (Value.int IntKind.i64 y0)))] [(0, some { kind := Kind.virt, row := [D.s y2], fl := [Own.deep] })]) := by kernel_rfl
theorem r18_2x (call : CallT) (lp : Code → St → Option (Ex × St)) (z0 : Int) (z1 : List (List D)) :
    evA (Y.ctx call) 18 lp 2 c18 (Ex.exit 0) (mk 1 20 [(1, AV.one (A1.v (Value.int IntKind.i64 z0)))] [(0, some { kind := Kind.virt, row := [D.s z1], fl := [Own.deep] })]) (outE (Y.ctx call) 18 Try.f18) =
    some { cells := [TC.v (Value.int IntKind.i64 z0)], objs := [{ kind := Kind.virt, row := [D.s z1], fl := [Own.deep] }] } := by kernel_rfl

theorem r19 (call : CallT) (lp : Code → St → Option (Ex × St)) (a0 : List (List D)) (a1 : Int) :
    evK (Y.ctx call) 19 lp c19 (initSt Try.f19 [AV.one (A1.s a0), AV.one (A1.v (Value.int IntKind.i64 a1))] []) (outE (Y.ctx call) 19 Try.f19) =
    (lp (bodyAt 2 c19) (mk 0 22 [(0, AV.one (A1.s a0)), (1, AV.one (A1.v (Value.int IntKind.i64 a1))), (5, AV.one (A1.v (Value.int IntKind.i64 0)))] [])).bind fun r =>
  evA (Y.ctx call) 19 lp 2 c19 r.fst r.snd (outE (Y.ctx call) 19 Try.f19) := by kernel_rfl
theorem r19_2 (call : CallT) (lp : Code → St → Option (Ex × St)) (y0 : List (List D)) (y1 : Int) (y2 : Int) :
    evK (Y.ctx call) 19 lp (bodyAt 2 c19) (mk 0 22 [(0, AV.one (A1.s y0)), (1, AV.one (A1.v (Value.int IntKind.i64 y1))), (5, AV.one (A1.v (Value.int IntKind.i64 y2)))] []) (outL ((Y.ctx call).live 19 2)) =
    bif decide (y2 < (↑y0.length : Int)) then
  bif decide (0 ≤ y2) && decide (y2 < (↑y0.length : Int)) && decide ((y0.getD y2.toNat []).length = 1) then
    bif fitsRow [CK.str] (y0.getD y2.toNat []) 0 && decide (1 ≤ (y0.getD y2.toNat []).length) then
      (call 37 [AV.one (A1.v (Value.int IntKind.i64 y1))] []).bind fun val =>
        bif fitsCells [R1.str] val.1 && true then
          bif !((y0.getD y2.toNat []).getD 0 D.h).str.toList == (val.1.getD 0 TC.d).str.toList then
            some (Ex.ret, mk 0 22 [(1, AV.one (A1.v (Value.int IntKind.i64 y1))), (4, AV.one (A1.v (Value.int IntKind.i64 (-1))))] [])
          else
            some
              (Ex.normal,
                mk 0 22 [(0, AV.one (A1.s y0)), (1, AV.one (A1.v (Value.int IntKind.i64 (IntKind.i64.wrap (y1 + 1))))), (5, AV.one (A1.v (Value.int IntKind.i64 (IntKind.i64.wrap (y2 + 1)))))] [])
        else none
    else none
  else none
else some (Ex.exit 0, mk 0 22 [(1, AV.one (A1.v (Value.int IntKind.i64 y1)))] []) := by kernel_rfl
theorem r19_2r (call : CallT) (lp : Code → St → Option (Ex × St)) (z0 : Int) (z1 : Int) :
    evA (Y.ctx call) 19 lp 2 c19 Ex.ret (mk 0 22 [(1, AV.one (A1.v (Value.int IntKind.i64 z0))), (4, AV.one (A1.v (Value.int IntKind.i64 z1)))] []) (outE (Y.ctx call) 19 Try.f19) =
    some { cells := [TC.v (Value.int IntKind.i64 z1)], objs := [] } := by kernel_rfl
theorem r19_2x (call : CallT) (lp : Code → St → Option (Ex × St)) (z0 : Int) :
    evA (Y.ctx call) 19 lp 2 c19 (Ex.exit 0) (mk 0 22 [(1, AV.one (A1.v (Value.int IntKind.i64 z0)))] []) (outE (Y.ctx call) 19 Try.f19) =
    some { cells := [TC.v (Value.int IntKind.i64 z0)], objs := [] } := by kernel_rfl

theorem r29 (call : CallT) (lp : Code → St → Option (Ex × St)) (a0 : List (List D)) (a1 : Int) :
    evK (Y.ctx call) 29 lp c29 (initSt Try.f29 [AV.one (A1.s a0), AV.one (A1.v (Value.int IntKind.i64 a1))] []) (outE (Y.ctx call) 29 Try.f29) =
    bif decide (IntKind.i64.wrap (a1 - (↑a0.length : Int)) < 0) then some { cells := [TC.v (Value.int IntKind.i64 (-1))], objs := [] }
else
  (lp (bodyAt 5 c29) (mk 0 27 [(0, AV.one (A1.s a0)), (1, AV.one (A1.v (Value.int IntKind.i64 (IntKind.i64.wrap (a1 - (↑a0.length : Int)))))), (5, AV.one (A1.v (Value.int IntKind.i64 0)))] [])).bind
    fun r => evA (Y.ctx call) 29 lp 5 c29 r.fst r.snd (outE (Y.ctx call) 29 Try.f29) := by kernel_rfl
theorem r29_5 (call : CallT) (lp : Code → St → Option (Ex × St)) (y0 : List (List D)) (y1 : Int) (y2 : Int) :
    evK (Y.ctx call) 29 lp (bodyAt 5 c29) (mk 0 27 [(0, AV.one (A1.s y0)), (1, AV.one (A1.v (Value.int IntKind.i64 y1))), (5, AV.one (A1.v (Value.int IntKind.i64 y2)))] []) (outL ((Y.ctx call).live 29 5)) =
    bif decide (y2 < (↑y0.length : Int)) then
  bif decide (0 ≤ y2) && decide (y2 < (↑y0.length : Int)) && decide ((y0.getD y2.toNat []).length = 2) then
    bif fitsRow [CK.int IntKind.i64, CK.sl] (y0.getD y2.toNat []) 0 && decide (2 ≤ (y0.getD y2.toNat []).length) then
      (call 50 [AV.g [A1.v (Value.int IntKind.i64 ((y0.getD y2.toNat []).getD 0 D.h).int), A1.s ((y0.getD y2.toNat []).getD 1 D.h).es], AV.one (A1.v (Value.int IntKind.i64 y1))] []).bind fun val =>
        bif fitsCells [R1.int IntKind.i64] val.1 && true then
          bif decide ((val.1.getD 0 TC.d).int < 0) then some (Ex.ret, mk 0 27 [(1, AV.one (A1.v (Value.int IntKind.i64 (val.1.getD 0 TC.d).int))), (4, AV.one (A1.v (Value.int IntKind.i64 (-1))))] [])
          else
            some
              (Ex.normal,
                mk 0 27 [(0, AV.one (A1.s y0)), (1, AV.one (A1.v (Value.int IntKind.i64 (val.1.getD 0 TC.d).int))), (5, AV.one (A1.v (Value.int IntKind.i64 (IntKind.i64.wrap (y2 + 1)))))] [])
        else none
    else none
  else none
else some (Ex.exit 0, mk 0 27 [(1, AV.one (A1.v (Value.int IntKind.i64 y1)))] []) := by kernel_rfl
theorem r29_5r (call : CallT) (lp : Code → St → Option (Ex × St)) (z0 : Int) (z1 : Int) :
    evA (Y.ctx call) 29 lp 5 c29 Ex.ret (mk 0 27 [(1, AV.one (A1.v (Value.int IntKind.i64 z0))), (4, AV.one (A1.v (Value.int IntKind.i64 z1)))] []) (outE (Y.ctx call) 29 Try.f29) =
    some { cells := [TC.v (Value.int IntKind.i64 z1)], objs := [] } := by kernel_rfl
theorem r29_5x (call : CallT) (lp : Code → St → Option (Ex × St)) (z0 : Int) :
    evA (Y.ctx call) 29 lp 5 c29 (Ex.exit 0) (mk 0 27 [(1, AV.one (A1.v (Value.int IntKind.i64 z0)))] []) (outE (Y.ctx call) 29 Try.f29) =
    some { cells := [TC.v (Value.int IntKind.i64 z0)], objs := [] } := by kernel_rfl

theorem r30 (call : CallT) (lp : Code → St → Option (Ex × St)) (a0 : Int) (a1 : List (List D)) :
    evK (Y.ctx call) 30 lp c30 (initSt Try.f30 [AV.g [A1.v (Value.int IntKind.i64 a0), A1.s a1]] []) (outE (Y.ctx call) 30 Try.f30) =
    (call 51 [AV.one (A1.v (Value.int IntKind.i64 a0)), AV.one (A1.v (Value.int IntKind.i64 1)), AV.one (A1.v (Value.int IntKind.i64 10000))] []).bind fun val =>
  bif fitsCells [R1.bool] val.1 && true then
    bif !(val.1.getD 0 TC.d).bool then some { cells := [TC.v (Value.bool false)], objs := [] }
    else
      bif decide ((↑a1.length : Int) > 30) then some { cells := [TC.v (Value.bool false)], objs := [] }
      else
        (lp (bodyAt 4 c30)
              (mk 0 72 [(1, AV.one (A1.p true 1 [] 0)), (3, AV.one (A1.v (Value.int IntKind.i64 0)))]
                [(1, some { kind := Kind.box, row := [D.v (Value.int IntKind.i64 a0), D.s a1], fl := [Own.deep, Own.sh] })])).bind
          fun r => evA (Y.ctx call) 30 lp 4 c30 r.fst r.snd (outE (Y.ctx call) 30 Try.f30)
  else none := by kernel_rfl
theorem r30_4 (call : CallT) (lp : Code → St → Option (Ex × St)) (y0 : Int) (y1 : Int) (y2 : List (List D)) :
    evK (Y.ctx call) 30 lp (bodyAt 4 c30)
  (mk 0 72 [(1, AV.one (A1.p true 1 [] 0)), (3, AV.one (A1.v (Value.int IntKind.i64 y0)))] [(1, some { kind := Kind.box, row := [D.v (Value.int IntKind.i64 y1), D.s y2], fl := [Own.deep, Own.sh] })])
  (outL ((Y.ctx call).live 30 4)) =
    bif decide (y0 < (↑y2.length : Int)) then
  bif decide (0 ≤ y0) && decide (y0 < (↑y2.length : Int)) && decide ((y2.getD y0.toNat []).length = 2) then
    bif fitsRow [CK.int IntKind.i64, CK.sl] (y2.getD y0.toNat []) 0 && decide (2 ≤ (y2.getD y0.toNat []).length) then
      (call 51
            [AV.one (A1.v (Value.int IntKind.i64 ((y2.getD y0.toNat []).getD 0 D.h).int)), AV.one (A1.v (Value.int IntKind.i64 1)), AV.one (A1.v (Value.int IntKind.i64 (IntKind.i64.wrap (y1 - 1))))]
            []).bind
        fun val =>
        bif fitsCells [R1.bool] val.1 && true then
          bif !(val.1.getD 0 TC.d).bool then some (Ex.ret, mk 0 72 [(2, AV.one (A1.v (Value.bool false)))] [])
          else
            (call 52 [AV.one (A1.s ((y2.getD y0.toNat []).getD 1 D.h).es)] []).bind fun val =>
              bif fitsCells [R1.bool] val.1 && true then
                bif !(val.1.getD 0 TC.d).bool then some (Ex.ret, mk 0 72 [(2, AV.one (A1.v (Value.bool false)))] [])
                else
                  bif decide (y0 > 0) then
                    bif decide (0 ≤ IntKind.i64.wrap (y0 - 1)) && decide (IntKind.i64.wrap (y0 - 1) < (↑y2.length : Int)) && decide ((y2.getD (IntKind.i64.wrap (y0 - 1)).toNat []).length = 2) then
                      bif fitsRow [CK.sl] (y2.getD (IntKind.i64.wrap (y0 - 1)).toNat []) 1 && decide (2 ≤ (y2.getD (IntKind.i64.wrap (y0 - 1)).toNat []).length) then
                        (call 53 [AV.one (A1.s ((y2.getD (IntKind.i64.wrap (y0 - 1)).toNat []).getD 1 D.h).es), AV.one (A1.s ((y2.getD y0.toNat []).getD 1 D.h).es)] []).bind fun val =>
                          bif fitsCells [R1.bool] val.1 && true then
                            bif !(val.1.getD 0 TC.d).bool then some (Ex.ret, mk 0 72 [(2, AV.one (A1.v (Value.bool false)))] [])
                            else
                              (lp (bodyAt 10 (bodyAt 4 c30))
                                    (mk 0 72
                                      [(1, AV.one (A1.p true 1 [] 0)), (3, AV.one (A1.v (Value.int IntKind.i64 y0))), (4, AV.one (A1.p true 4 [] 0)), (5, AV.one (A1.v (Value.int IntKind.i64 0)))]
                                      [(1, some { kind := Kind.box, row := [D.v (Value.int IntKind.i64 y1), D.s y2], fl := [Own.deep, Own.sh] }),
                                        (4,
                                          some
                                            { kind := Kind.box, row := [D.v (Value.int IntKind.i64 ((y2.getD y0.toNat []).getD 0 D.h).int), D.s ((y2.getD y0.toNat []).getD 1 D.h).es],
                                              fl := [Own.deep, Own.sh] })])).bind
                                fun r => evA (Y.ctx call) 30 lp 10 (bodyAt 4 c30) r.fst r.snd (outL ((Y.ctx call).live 30 4))
                          else none
                      else none
                    else none
                  else
                    (lp (bodyAt 10 (bodyAt 4 c30))
                          (mk 0 72 [(1, AV.one (A1.p true 1 [] 0)), (3, AV.one (A1.v (Value.int IntKind.i64 y0))), (4, AV.one (A1.p true 4 [] 0)), (5, AV.one (A1.v (Value.int IntKind.i64 0)))]
                            [(1, some { kind := Kind.box, row := [D.v (Value.int IntKind.i64 y1), D.s y2], fl := [Own.deep, Own.sh] }),
                              (4,
                                some
                                  { kind := Kind.box, row := [D.v (Value.int IntKind.i64 ((y2.getD y0.toNat []).getD 0 D.h).int), D.s ((y2.getD y0.toNat []).getD 1 D.h).es],
                                    fl := [Own.deep, Own.sh] })])).bind
                      fun r => evA (Y.ctx call) 30 lp 10 (bodyAt 4 c30) r.fst r.snd (outL ((Y.ctx call).live 30 4))
              else none
        else none
    else none
  else none
else some (Ex.exit 0, mk 0 72 [] []) := by kernel_rfl
theorem r30_10 (call : CallT) (lp : Code → St → Option (Ex × St)) (y0 : Int) (y1 : Int) (y2 : Int) (y3 : List (List D)) (y4 : Int) (y5 : List (List D)) :
    evK (Y.ctx call) 30 lp (bodyAt 10 (bodyAt 4 c30))
  (mk 0 72 [(1, AV.one (A1.p true 1 [] 0)), (3, AV.one (A1.v (Value.int IntKind.i64 y0))), (4, AV.one (A1.p true 4 [] 0)), (5, AV.one (A1.v (Value.int IntKind.i64 y1)))]
    [(1, some { kind := Kind.box, row := [D.v (Value.int IntKind.i64 y2), D.s y3], fl := [Own.deep, Own.sh] }),
      (4, some { kind := Kind.box, row := [D.v (Value.int IntKind.i64 y4), D.s y5], fl := [Own.deep, Own.sh] })])
  (outL ((Y.ctx call).live 30 10)) =
    bif decide (y1 < y0) then
  bif decide (0 ≤ y1) && decide (y1 < (↑y3.length : Int)) && decide ((y3.getD y1.toNat []).length = 2) then
    bif fitsRow [CK.int IntKind.i64] (y3.getD y1.toNat []) 0 && decide (1 ≤ (y3.getD y1.toNat []).length) then
      bif ((y3.getD y1.toNat []).getD 0 D.h).int == y4 then
        some
          (Ex.ret,
            mk 0 72 [(1, AV.one (A1.p true 1 [] 0)), (2, AV.one (A1.v (Value.bool false))), (3, AV.one (A1.v (Value.int IntKind.i64 y0)))]
              [(1, some { kind := Kind.box, row := [D.v (Value.int IntKind.i64 y2), D.s y3], fl := [Own.deep, Own.sh] })])
      else
        some
          (Ex.normal,
            mk 0 72
              [(1, AV.one (A1.p true 1 [] 0)), (3, AV.one (A1.v (Value.int IntKind.i64 y0))), (4, AV.one (A1.p true 4 [] 0)), (5, AV.one (A1.v (Value.int IntKind.i64 (IntKind.i64.wrap (y1 + 1)))))]
              [(1, some { kind := Kind.box, row := [D.v (Value.int IntKind.i64 y2), D.s y3], fl := [Own.deep, Own.sh] }),
                (4, some { kind := Kind.box, row := [D.v (Value.int IntKind.i64 y4), D.s y5], fl := [Own.deep, Own.sh] })])
    else none
  else none
else
  some
    (Ex.exit 2,
      mk 0 72 [(1, AV.one (A1.p true 1 [] 0)), (3, AV.one (A1.v (Value.int IntKind.i64 y0)))]
        [(1, some { kind := Kind.box, row := [D.v (Value.int IntKind.i64 y2), D.s y3], fl := [Own.deep, Own.sh] })]) := by kernel_rfl
theorem r30_10r (call : CallT) (lp : Code → St → Option (Ex × St)) (z0 : Bool) (z1 : Int) (z2 : Int) (z3 : List (List D)) :
    evA (Y.ctx call) 30 lp 10 (bodyAt 4 c30) Ex.ret
  (mk 0 72 [(1, AV.one (A1.p true 1 [] 0)), (2, AV.one (A1.v (Value.bool z0))), (3, AV.one (A1.v (Value.int IntKind.i64 z1)))]
    [(1, some { kind := Kind.box, row := [D.v (Value.int IntKind.i64 z2), D.s z3], fl := [Own.deep, Own.sh] })])
  (outL ((Y.ctx call).live 30 4)) =
    some (Ex.ret, mk 0 72 [(2, AV.one (A1.v (Value.bool z0)))] []) := by kernel_rfl
theorem r30_10x (call : CallT) (lp : Code → St → Option (Ex × St)) (z0 : Int) (z1 : Int) (z2 : List (List D)) :
    evA (Y.ctx call) 30 lp 10 (bodyAt 4 c30) (Ex.exit 2)
  (mk 0 72 [(1, AV.one (A1.p true 1 [] 0)), (3, AV.one (A1.v (Value.int IntKind.i64 z0)))] [(1, some { kind := Kind.box, row := [D.v (Value.int IntKind.i64 z1), D.s z2], fl := [Own.deep, Own.sh] })])
  (outL ((Y.ctx call).live 30 4)) =
    some
  (Ex.normal,
    mk 0 72 [(1, AV.one (A1.p true 1 [] 0)), (3, AV.one (A1.v (Value.int IntKind.i64 (IntKind.i64.wrap (z0 + 1)))))]
      [(1, some { kind := Kind.box, row := [D.v (Value.int IntKind.i64 z1), D.s z2], fl := [Own.deep, Own.sh] })]) := by kernel_rfl
theorem r30_4r (call : CallT) (lp : Code → St → Option (Ex × St)) (z0 : Bool) :
    evA (Y.ctx call) 30 lp 4 c30 Ex.ret (mk 0 72 [(2, AV.one (A1.v (Value.bool z0)))] []) (outE (Y.ctx call) 30 Try.f30) =
    some { cells := [TC.v (Value.bool z0)], objs := [] } := by kernel_rfl
theorem r30_4x (call : CallT) (lp : Code → St → Option (Ex × St)) :
    evA (Y.ctx call) 30 lp 4 c30 (Ex.exit 0) (mk 0 72 [] []) (outE (Y.ctx call) 30 Try.f30) =
    some { cells := [TC.v (Value.bool true)], objs := [] } := by kernel_rfl

theorem r31 (call : CallT) (lp : Code → St → Option (Ex × St)) (a0 : Int) (a1 : List (List D)) (a2 : List (List D)) :
    evK (Y.ctx call) 31 lp c31 (initSt Try.f31 [AV.g [A1.v (Value.int IntKind.i64 a0), A1.s a1], AV.one (A1.s a2)] []) (outE (Y.ctx call) 31 Try.f31) =
    (lp (bodyAt 2 c31)
      (mk 0 27 [(1, AV.one (A1.s a2)), (2, AV.one (A1.p true 2 [] 0)), (5, AV.one (A1.v (Value.int IntKind.i64 0)))]
        [(2, some { kind := Kind.box, row := [D.v (Value.int IntKind.i64 a0), D.s a1], fl := [Own.deep, Own.sh] })])).bind
  fun r => evA (Y.ctx call) 31 lp 2 c31 r.fst r.snd (outE (Y.ctx call) 31 Try.f31) := by kernel_rfl
theorem r31_2 (call : CallT) (lp : Code → St → Option (Ex × St)) (y0 : List (List D)) (y1 : Int) (y2 : Int) (y3 : List (List D)) :
    evK (Y.ctx call) 31 lp (bodyAt 2 c31)
  (mk 0 27 [(1, AV.one (A1.s y0)), (2, AV.one (A1.p true 2 [] 0)), (5, AV.one (A1.v (Value.int IntKind.i64 y1)))]
    [(2, some { kind := Kind.box, row := [D.v (Value.int IntKind.i64 y2), D.s y3], fl := [Own.deep, Own.sh] })])
  (outL ((Y.ctx call).live 31 2)) =
    bif decide (y1 < (↑y3.length : Int)) then
  bif decide (0 ≤ y1) && decide (y1 < (↑y3.length : Int)) && decide ((y3.getD y1.toNat []).length = 2) then
    bif fitsRow [CK.sl] (y3.getD y1.toNat []) 1 && decide (2 ≤ (y3.getD y1.toNat []).length) then
      (call 47 [AV.one (A1.s ((y3.getD y1.toNat []).getD 1 D.h).es), AV.one (A1.s y0)] []).bind fun val =>
        bif fitsCells [R1.bool] val.1 && true then
          bif (val.1.getD 0 TC.d).bool then
            bif decide (0 ≤ y1) && decide (y1 < (↑y3.length : Int)) && decide ((y3.getD y1.toNat []).length = 2) then
              bif fitsRow [CK.int IntKind.i64] (y3.getD y1.toNat []) 0 && decide (1 ≤ (y3.getD y1.toNat []).length) then
                some (Ex.ret, mk 0 27 [(4, AV.one (A1.v (Value.int IntKind.i64 ((y3.getD y1.toNat []).getD 0 D.h).int)))] [])
              else none
            else none
          else
            some
              (Ex.normal,
                mk 0 27 [(1, AV.one (A1.s y0)), (2, AV.one (A1.p true 2 [] 0)), (5, AV.one (A1.v (Value.int IntKind.i64 (IntKind.i64.wrap (y1 + 1)))))]
                  [(2, some { kind := Kind.box, row := [D.v (Value.int IntKind.i64 y2), D.s y3], fl := [Own.deep, Own.sh] })])
        else none
    else none
  else none
else some (Ex.exit 0, mk 0 27 [] []) := by kernel_rfl
theorem r31_2r (call : CallT) (lp : Code → St → Option (Ex × St)) (z0 : Int) :
    evA (Y.ctx call) 31 lp 2 c31 Ex.ret (mk 0 27 [(4, AV.one (A1.v (Value.int IntKind.i64 z0)))] []) (outE (Y.ctx call) 31 Try.f31) =
    some { cells := [TC.v (Value.int IntKind.i64 z0)], objs := [] } := by kernel_rfl
theorem r31_2x (call : CallT) (lp : Code → St → Option (Ex × St)) :
    evA (Y.ctx call) 31 lp 2 c31 (Ex.exit 0) (mk 0 27 [] []) (outE (Y.ctx call) 31 Try.f31) =
    some { cells := [TC.v (Value.int IntKind.i64 0)], objs := [] } := by kernel_rfl

theorem r32 (call : CallT) (lp : Code → St → Option (Ex × St)) (a0 : List (List D)) :
    evK (Y.ctx call) 32 lp c32 (initSt Try.f32 [AV.one (A1.s a0)] []) (outE (Y.ctx call) 32 Try.f32) =
    bif decide ((↑a0.length : Int) * ((↑32 : Int) + 1) ≤ 2 ^ 46) && true && true then
  (lp (bodyAt 3 c32)
        (mk 0 23 [(0, AV.one (A1.s a0)), (3, AV.one (A1.r 3 [] 0)), (4, AV.one (A1.v (Value.int IntKind.i64 0)))]
          [(3, some { kind := Kind.virt, row := [D.s (List.replicate (↑a0.length : Int).toNat [D.v (Value.int IntKind.i64 0), D.s []])], fl := [Own.deep] })])).bind
    fun r => evA (Y.ctx call) 32 lp 3 c32 r.fst r.snd (outE (Y.ctx call) 32 Try.f32)
else none := by kernel_rfl
theorem r32_3 (call : CallT) (lp : Code → St → Option (Ex × St)) (y0 : List (List D)) (y1 : Int) (y2 : List (List D)) :
    evK (Y.ctx call) 32 lp (bodyAt 3 c32)
  (mk 0 23 [(0, AV.one (A1.s y0)), (3, AV.one (A1.r 3 [] 0)), (4, AV.one (A1.v (Value.int IntKind.i64 y1)))] [(3, some { kind := Kind.virt, row := [D.s y2], fl := [Own.deep] })])
  (outL ((Y.ctx call).live 32 3)) =
    bif decide (y1 < (↑y0.length : Int)) then
  bif decide (0 ≤ y1) && decide (y1 < (↑y0.length : Int)) && decide ((y0.getD y1.toNat []).length = 2) then
    bif fitsRow [CK.int IntKind.i64, CK.sl] (y0.getD y1.toNat []) 0 && decide (2 ≤ (y0.getD y1.toNat []).length) then
      (call 54 [AV.g [A1.v (Value.int IntKind.i64 ((y0.getD y1.toNat []).getD 0 D.h).int), A1.s ((y0.getD y1.toNat []).getD 1 D.h).es]] []).bind fun val =>
        bif fitsCells [R1.int IntKind.i64, R1.own Own.deep] val.1 && true then
          bif decide (0 ≤ y1) && decide (y1 < (↑y2.length : Int)) && decide ((y2.getD y1.toNat []).length = 2) then
            bif decide (2 ≤ (y2.getD y1.toNat []).length) && true then
              some
                (Ex.normal,
                  mk 0 23 [(0, AV.one (A1.s y0)), (3, AV.one (A1.r 3 [] 0)), (4, AV.one (A1.v (Value.int IntKind.i64 (IntKind.i64.wrap (y1 + 1)))))]
                    [(3,
                        some
                          { kind := Kind.virt, row := [D.s (y2.set y1.toNat (D.v (Value.int IntKind.i64 (val.1.getD 0 TC.d).int) :: D.s (val.1.getD 1 TC.d).es :: List.drop 2 (y2.getD y1.toNat [])))],
                            fl := [Own.deep] })])
            else none
          else none
        else none
    else none
  else none
else some (Ex.exit 0, mk 0 23 [(3, AV.one (A1.r 3 [] 0))] [(3, some { kind := Kind.virt, row := [D.s y2], fl := [Own.deep] })]) := by kernel_rfl
theorem r32_3x (call : CallT) (lp : Code → St → Option (Ex × St)) (z0 : List (List D)) :
    evA (Y.ctx call) 32 lp 3 c32 (Ex.exit 0) (mk 0 23 [(3, AV.one (A1.r 3 [] 0))] [(3, some { kind := Kind.virt, row := [D.s z0], fl := [Own.deep] })]) (outE (Y.ctx call) 32 Try.f32) =
    some { cells := [TC.o Own.deep z0], objs := [] } := by kernel_rfl

theorem r33 (call : CallT) (lp : Code → St → Option (Ex × St)) (a0 : Int) (a1 : List (List D)) :
    evK (Y.ctx call) 33 lp c33 (initSt Try.f33 [AV.g [A1.v (Value.int IntKind.i64 a0), A1.s a1]] []) (outE (Y.ctx call) 33 Try.f33) =
    (lp (bodyAt 2 c33)
      (mk 0 70 [(1, AV.one (A1.p true 1 [] 0)), (8, AV.one (A1.s a1)), (9, AV.one (A1.v (Value.int IntKind.i64 (↑a1.length : Int)))), (10, AV.one (A1.v (Value.int IntKind.i64 0)))]
        [(1, some { kind := Kind.box, row := [D.v (Value.int IntKind.i64 a0), D.s a1], fl := [Own.deep, Own.sh] })])).bind
  fun r => evA (Y.ctx call) 33 lp 2 c33 r.fst r.snd (outE (Y.ctx call) 33 Try.f33) := by kernel_rfl
theorem r33_2 (call : CallT) (lp : Code → St → Option (Ex × St)) (y0 : List (List D)) (y1 : Int) (y2 : Int) (y3 : Int) (y4 : List (List D)) :
    evK (Y.ctx call) 33 lp (bodyAt 2 c33)
  (mk 0 70 [(1, AV.one (A1.p true 1 [] 0)), (8, AV.one (A1.s y0)), (9, AV.one (A1.v (Value.int IntKind.i64 y1))), (10, AV.one (A1.v (Value.int IntKind.i64 y2)))]
    [(1, some { kind := Kind.box, row := [D.v (Value.int IntKind.i64 y3), D.s y4], fl := [Own.deep, Own.sh] })])
  (outL ((Y.ctx call).live 33 2)) =
    bif decide (y2 < y1) then
  bif decide (0 ≤ y2) && decide (y2 < (↑y0.length : Int)) && decide ((y0.getD y2.toNat []).length = 2) then
    bif fitsRow [CK.int IntKind.i64, CK.sl] (y0.getD y2.toNat []) 0 && decide (2 ≤ (y0.getD y2.toNat []).length) then
      (call 55 [AV.one (A1.s ((y0.getD y2.toNat []).getD 1 D.h).es), AV.one (A1.v (Value.int IntKind.i64 1))] []).bind fun val =>
        bif fitsCells [R1.bool] val.1 && true then
          bif !(val.1.getD 0 TC.d).bool then
            some
              (Ex.ret,
                mk 0 70 [(1, AV.one (A1.p true 1 [] 0)), (2, AV.one (A1.v (Value.bool false)))]
                  [(1, some { kind := Kind.box, row := [D.v (Value.int IntKind.i64 y3), D.s y4], fl := [Own.deep, Own.sh] })])
          else
            bif decide (y2 > 0) then
              bif decide (0 ≤ IntKind.i64.wrap (y2 - 1)) && decide (IntKind.i64.wrap (y2 - 1) < (↑y4.length : Int)) && decide ((y4.getD (IntKind.i64.wrap (y2 - 1)).toNat []).length = 2) then
                bif fitsRow [CK.sl] (y4.getD (IntKind.i64.wrap (y2 - 1)).toNat []) 1 && decide (2 ≤ (y4.getD (IntKind.i64.wrap (y2 - 1)).toNat []).length) then
                  (call 56 [AV.one (A1.s ((y4.getD (IntKind.i64.wrap (y2 - 1)).toNat []).getD 1 D.h).es), AV.one (A1.s ((y0.getD y2.toNat []).getD 1 D.h).es)] []).bind fun val =>
                    bif fitsCells [R1.int IntKind.i64] val.1 && true then
                      bif decide ((val.1.getD 0 TC.d).int ≥ 0) then
                        some
                          (Ex.ret,
                            mk 0 70 [(1, AV.one (A1.p true 1 [] 0)), (2, AV.one (A1.v (Value.bool false)))]
                              [(1, some { kind := Kind.box, row := [D.v (Value.int IntKind.i64 y3), D.s y4], fl := [Own.deep, Own.sh] })])
                      else
                        (call 57
                              [AV.one (A1.v (Value.int IntKind.i64 ((y0.getD y2.toNat []).getD 0 D.h).int)), AV.one (A1.v (Value.int IntKind.i64 1)),
                                AV.one (A1.v (Value.int IntKind.i64 (IntKind.i64.wrap (y3 - 1))))]
                              []).bind
                          fun val =>
                          bif fitsCells [R1.bool] val.1 && true then
                            bif !(val.1.getD 0 TC.d).bool then
                              some
                                (Ex.ret,
                                  mk 0 70 [(1, AV.one (A1.p true 1 [] 0)), (2, AV.one (A1.v (Value.bool false)))]
                                    [(1, some { kind := Kind.box, row := [D.v (Value.int IntKind.i64 y3), D.s y4], fl := [Own.deep, Own.sh] })])
                            else
                              bif decide (none.getD 0 ≤ y2) && decide (y2 ≤ (↑y4.length : Int)) && true then
                                (lp (bodyAt 7 (bodyAt 2 c33))
                                      (mk 0 70
                                        [(1, AV.one (A1.p true 1 [] 0)), (4, AV.one (A1.p true 4 [] 0)), (8, AV.one (A1.s y0)), (9, AV.one (A1.v (Value.int IntKind.i64 y1))),
                                          (10, AV.one (A1.v (Value.int IntKind.i64 y2))), (48, AV.one (A1.s (List.drop 0 (List.take y2.toNat y4)))),
                                          (49, AV.one (A1.v (Value.int IntKind.i64 (↑(List.drop 0 (List.take y2.toNat y4)).length : Int)))), (50, AV.one (A1.v (Value.int IntKind.i64 0)))]
                                        [(1, some { kind := Kind.box, row := [D.v (Value.int IntKind.i64 y3), D.s y4], fl := [Own.deep, Own.sh] }),
                                          (4,
                                            some
                                              { kind := Kind.box, row := [D.v (Value.int IntKind.i64 ((y0.getD y2.toNat []).getD 0 D.h).int), D.s ((y0.getD y2.toNat []).getD 1 D.h).es],
                                                fl := [Own.deep, Own.sh] })])).bind
                                  fun r => evA (Y.ctx call) 33 lp 7 (bodyAt 2 c33) r.fst r.snd (outL ((Y.ctx call).live 33 2))
                              else none
                          else none
                    else none
                else none
              else none
            else
              (call 57
                    [AV.one (A1.v (Value.int IntKind.i64 ((y0.getD y2.toNat []).getD 0 D.h).int)), AV.one (A1.v (Value.int IntKind.i64 1)),
                      AV.one (A1.v (Value.int IntKind.i64 (IntKind.i64.wrap (y3 - 1))))]
                    []).bind
                fun val =>
                bif fitsCells [R1.bool] val.1 && true then
                  bif !(val.1.getD 0 TC.d).bool then
                    some
                      (Ex.ret,
                        mk 0 70 [(1, AV.one (A1.p true 1 [] 0)), (2, AV.one (A1.v (Value.bool false)))]
                          [(1, some { kind := Kind.box, row := [D.v (Value.int IntKind.i64 y3), D.s y4], fl := [Own.deep, Own.sh] })])
                  else
                    bif decide (none.getD 0 ≤ y2) && decide (y2 ≤ (↑y4.length : Int)) && true then
                      (lp (bodyAt 7 (bodyAt 2 c33))
                            (mk 0 70
                              [(1, AV.one (A1.p true 1 [] 0)), (4, AV.one (A1.p true 4 [] 0)), (8, AV.one (A1.s y0)), (9, AV.one (A1.v (Value.int IntKind.i64 y1))),
                                (10, AV.one (A1.v (Value.int IntKind.i64 y2))), (48, AV.one (A1.s (List.drop 0 (List.take y2.toNat y4)))),
                                (49, AV.one (A1.v (Value.int IntKind.i64 (↑(List.drop 0 (List.take y2.toNat y4)).length : Int)))), (50, AV.one (A1.v (Value.int IntKind.i64 0)))]
                              [(1, some { kind := Kind.box, row := [D.v (Value.int IntKind.i64 y3), D.s y4], fl := [Own.deep, Own.sh] }),
                                (4,
                                  some
                                    { kind := Kind.box, row := [D.v (Value.int IntKind.i64 ((y0.getD y2.toNat []).getD 0 D.h).int), D.s ((y0.getD y2.toNat []).getD 1 D.h).es],
                                      fl := [Own.deep, Own.sh] })])).bind
                        fun r => evA (Y.ctx call) 33 lp 7 (bodyAt 2 c33) r.fst r.snd (outL ((Y.ctx call).live 33 2))
                    else none
                else none
        else none
    else none
  else none
else some (Ex.exit 0, mk 0 70 [(1, AV.one (A1.p true 1 [] 0))] [(1, some { kind := Kind.box, row := [D.v (Value.int IntKind.i64 y3), D.s y4], fl := [Own.deep, Own.sh] })]) := by kernel_rfl
theorem r33_7 (call : CallT) (lp : Code → St → Option (Ex × St)) (y0 : List (List D)) (y1 : Int) (y2 : Int) (y3 : List (List D)) (y4 : Int) (y5 : Int) (y6 : Int) (y7 : List (List D)) (y8 : Int) (y9 : List (List D)) :
    evK (Y.ctx call) 33 lp (bodyAt 7 (bodyAt 2 c33))
  (mk 0 70
    [(1, AV.one (A1.p true 1 [] 0)), (4, AV.one (A1.p true 4 [] 0)), (8, AV.one (A1.s y0)), (9, AV.one (A1.v (Value.int IntKind.i64 y1))), (10, AV.one (A1.v (Value.int IntKind.i64 y2))),
      (48, AV.one (A1.s y3)), (49, AV.one (A1.v (Value.int IntKind.i64 y4))), (50, AV.one (A1.v (Value.int IntKind.i64 y5)))]
    [(1, some { kind := Kind.box, row := [D.v (Value.int IntKind.i64 y6), D.s y7], fl := [Own.deep, Own.sh] }),
      (4, some { kind := Kind.box, row := [D.v (Value.int IntKind.i64 y8), D.s y9], fl := [Own.deep, Own.sh] })])
  (outL ((Y.ctx call).live 33 7)) =
    bif decide (y5 < y4) then
  bif decide (0 ≤ y5) && decide (y5 < (↑y3.length : Int)) && decide ((y3.getD y5.toNat []).length = 2) then
    bif fitsRow [CK.int IntKind.i64, CK.sl] (y3.getD y5.toNat []) 0 && decide (2 ≤ (y3.getD y5.toNat []).length) then
      bif ((y3.getD y5.toNat []).getD 0 D.h).int == y8 then
        some
          (Ex.ret,
            mk 0 70
              [(1, AV.one (A1.p true 1 [] 0)), (2, AV.one (A1.v (Value.bool false))), (8, AV.one (A1.s y0)), (9, AV.one (A1.v (Value.int IntKind.i64 y1))),
                (10, AV.one (A1.v (Value.int IntKind.i64 y2)))]
              [(1, some { kind := Kind.box, row := [D.v (Value.int IntKind.i64 y6), D.s y7], fl := [Own.deep, Own.sh] })])
      else
        some
          (Ex.normal,
            mk 0 70
              [(1, AV.one (A1.p true 1 [] 0)), (4, AV.one (A1.p true 4 [] 0)), (8, AV.one (A1.s y0)), (9, AV.one (A1.v (Value.int IntKind.i64 y1))), (10, AV.one (A1.v (Value.int IntKind.i64 y2))),
                (48, AV.one (A1.s y3)), (49, AV.one (A1.v (Value.int IntKind.i64 y4))), (50, AV.one (A1.v (Value.int IntKind.i64 (IntKind.i64.wrap (y5 + 1)))))]
              [(1, some { kind := Kind.box, row := [D.v (Value.int IntKind.i64 y6), D.s y7], fl := [Own.deep, Own.sh] }),
                (4, some { kind := Kind.box, row := [D.v (Value.int IntKind.i64 y8), D.s y9], fl := [Own.deep, Own.sh] })])
    else none
  else none
else
  some
    (Ex.exit 2,
      mk 0 70 [(1, AV.one (A1.p true 1 [] 0)), (8, AV.one (A1.s y0)), (9, AV.one (A1.v (Value.int IntKind.i64 y1))), (10, AV.one (A1.v (Value.int IntKind.i64 y2)))]
        [(1, some { kind := Kind.box, row := [D.v (Value.int IntKind.i64 y6), D.s y7], fl := [Own.deep, Own.sh] })]) := by kernel_rfl
theorem r33_7r (call : CallT) (lp : Code → St → Option (Ex × St)) (z0 : Bool) (z1 : List (List D)) (z2 : Int) (z3 : Int) (z4 : Int) (z5 : List (List D)) :
    evA (Y.ctx call) 33 lp 7 (bodyAt 2 c33) Ex.ret
  (mk 0 70 [(1, AV.one (A1.p true 1 [] 0)), (2, AV.one (A1.v (Value.bool z0))), (8, AV.one (A1.s z1)), (9, AV.one (A1.v (Value.int IntKind.i64 z2))), (10, AV.one (A1.v (Value.int IntKind.i64 z3)))]
    [(1, some { kind := Kind.box, row := [D.v (Value.int IntKind.i64 z4), D.s z5], fl := [Own.deep, Own.sh] })])
  (outL ((Y.ctx call).live 33 2)) =
    some (Ex.ret, mk 0 70 [(1, AV.one (A1.p true 1 [] 0)), (2, AV.one (A1.v (Value.bool z0)))] [(1, some { kind := Kind.box, row := [D.v (Value.int IntKind.i64 z4), D.s z5], fl := [Own.deep, Own.sh] })]) := by kernel_rfl
theorem r33_7x (call : CallT) (lp : Code → St → Option (Ex × St)) (z0 : List (List D)) (z1 : Int) (z2 : Int) (z3 : Int) (z4 : List (List D)) :
    evA (Y.ctx call) 33 lp 7 (bodyAt 2 c33) (Ex.exit 2)
  (mk 0 70 [(1, AV.one (A1.p true 1 [] 0)), (8, AV.one (A1.s z0)), (9, AV.one (A1.v (Value.int IntKind.i64 z1))), (10, AV.one (A1.v (Value.int IntKind.i64 z2)))]
    [(1, some { kind := Kind.box, row := [D.v (Value.int IntKind.i64 z3), D.s z4], fl := [Own.deep, Own.sh] })])
  (outL ((Y.ctx call).live 33 2)) =
    some
  (Ex.normal,
    mk 0 70 [(1, AV.one (A1.p true 1 [] 0)), (8, AV.one (A1.s z0)), (9, AV.one (A1.v (Value.int IntKind.i64 z1))), (10, AV.one (A1.v (Value.int IntKind.i64 (IntKind.i64.wrap (z2 + 1)))))]
      [(1, some { kind := Kind.box, row := [D.v (Value.int IntKind.i64 z3), D.s z4], fl := [Own.deep, Own.sh] })]) := by kernel_rfl
theorem r33_2r (call : CallT) (lp : Code → St → Option (Ex × St)) (z0 : Bool) (z1 : Int) (z2 : List (List D)) :
    evA (Y.ctx call) 33 lp 2 c33 Ex.ret
  (mk 0 70 [(1, AV.one (A1.p true 1 [] 0)), (2, AV.one (A1.v (Value.bool z0)))] [(1, some { kind := Kind.box, row := [D.v (Value.int IntKind.i64 z1), D.s z2], fl := [Own.deep, Own.sh] })])
  (outE (Y.ctx call) 33 Try.f33) =
    some { cells := [TC.v (Value.bool z0)], objs := [] } := by kernel_rfl
theorem r33_2x (call : CallT) (lp : Code → St → Option (Ex × St)) (z0 : Int) (z1 : List (List D)) :
    evA (Y.ctx call) 33 lp 2 c33 (Ex.exit 0) (mk 0 70 [(1, AV.one (A1.p true 1 [] 0))] [(1, some { kind := Kind.box, row := [D.v (Value.int IntKind.i64 z0), D.s z1], fl := [Own.deep, Own.sh] })])
  (outE (Y.ctx call) 33 Try.f33) =
    (call 57 [AV.one (A1.v (Value.int IntKind.i64 z0)), AV.one (A1.v (Value.int IntKind.i64 1)), AV.one (A1.v (Value.int IntKind.i64 10000))] []).bind fun val =>
  bif fitsCells [R1.bool] val.1 && true then
    bif (val.1.getD 0 TC.d).bool then some { cells := [TC.v (Value.bool (decide ((↑z1.length : Int) ≤ 30)))], objs := [] } else some { cells := [TC.v (Value.bool false)], objs := [] }
  else none := by kernel_rfl

theorem r34 (call : CallT) (lp : Code → St → Option (Ex × St)) (a0 : List (List D)) (a1 : List (List D)) :
    evK (Y.ctx call) 34 lp c34 (initSt Try.f34 [AV.one (A1.s a0), AV.one (A1.s a1)] []) (outE (Y.ctx call) 34 Try.f34) =
    bif (↑a0.length : Int) != (↑a1.length : Int) then some { cells := [TC.v (Value.bool false)], objs := [] }
else
  (lp (bodyAt 4 c34) (mk 0 26 [(0, AV.one (A1.s a0)), (1, AV.one (A1.s a1)), (12, AV.one (A1.v (Value.int IntKind.i64 (↑a0.length : Int)))), (13, AV.one (A1.v (Value.int IntKind.i64 0)))] [])).bind
    fun r => evA (Y.ctx call) 34 lp 4 c34 r.fst r.snd (outE (Y.ctx call) 34 Try.f34) := by kernel_rfl
theorem r34_4 (call : CallT) (lp : Code → St → Option (Ex × St)) (y0 : List (List D)) (y1 : List (List D)) (y2 : Int) (y3 : Int) :
    evK (Y.ctx call) 34 lp (bodyAt 4 c34) (mk 0 26 [(0, AV.one (A1.s y0)), (1, AV.one (A1.s y1)), (12, AV.one (A1.v (Value.int IntKind.i64 y2))), (13, AV.one (A1.v (Value.int IntKind.i64 y3)))] [])
  (outL ((Y.ctx call).live 34 4)) =
    bif decide (y3 < y2) then
  bif decide (0 ≤ y3) && decide (y3 < (↑y0.length : Int)) && decide ((y0.getD y3.toNat []).length = 1) then
    bif fitsRow [CK.str] (y0.getD y3.toNat []) 0 && decide (1 ≤ (y0.getD y3.toNat []).length) then
      bif decide (0 ≤ y3) && decide (y3 < (↑y1.length : Int)) && decide ((y1.getD y3.toNat []).length = 1) then
        bif fitsRow [CK.str] (y1.getD y3.toNat []) 0 && decide (1 ≤ (y1.getD y3.toNat []).length) then
          bif !((y0.getD y3.toNat []).getD 0 D.h).str.toList == ((y1.getD y3.toNat []).getD 0 D.h).str.toList then some (Ex.ret, mk 0 26 [(4, AV.one (A1.v (Value.bool false)))] [])
          else
            some
              (Ex.normal,
                mk 0 26 [(0, AV.one (A1.s y0)), (1, AV.one (A1.s y1)), (12, AV.one (A1.v (Value.int IntKind.i64 y2))), (13, AV.one (A1.v (Value.int IntKind.i64 (IntKind.i64.wrap (y3 + 1)))))] [])
        else none
      else none
    else none
  else none
else some (Ex.exit 0, mk 0 26 [] []) := by kernel_rfl
theorem r34_4r (call : CallT) (lp : Code → St → Option (Ex × St)) (z0 : Bool) :
    evA (Y.ctx call) 34 lp 4 c34 Ex.ret (mk 0 26 [(4, AV.one (A1.v (Value.bool z0)))] []) (outE (Y.ctx call) 34 Try.f34) =
    some { cells := [TC.v (Value.bool z0)], objs := [] } := by kernel_rfl
theorem r34_4x (call : CallT) (lp : Code → St → Option (Ex × St)) :
    evA (Y.ctx call) 34 lp 4 c34 (Ex.exit 0) (mk 0 26 [] []) (outE (Y.ctx call) 34 Try.f34) =
    some { cells := [TC.v (Value.bool true)], objs := [] } := by kernel_rfl

theorem r35 (call : CallT) (lp : Code → St → Option (Ex × St)) (a0 : List (List D)) (a1 : List (List D)) :
    evK (Y.ctx call) 35 lp c35 (initSt Try.f35 [AV.one (A1.s a0), AV.one (A1.s a1)] []) (outE (Y.ctx call) 35 Try.f35) =
    bif (↑a0.length : Int) != (↑a1.length : Int) then some { cells := [TC.v (Value.bool false)], objs := [] }
else
  (lp (bodyAt 4 c35) (mk 0 27 [(0, AV.one (A1.s a0)), (1, AV.one (A1.s a1)), (5, AV.one (A1.v (Value.int IntKind.i64 0)))] [])).bind fun r =>
    evA (Y.ctx call) 35 lp 4 c35 r.fst r.snd (outE (Y.ctx call) 35 Try.f35) := by kernel_rfl
theorem r35_4 (call : CallT) (lp : Code → St → Option (Ex × St)) (y0 : List (List D)) (y1 : List (List D)) (y2 : Int) :
    evK (Y.ctx call) 35 lp (bodyAt 4 c35) (mk 0 27 [(0, AV.one (A1.s y0)), (1, AV.one (A1.s y1)), (5, AV.one (A1.v (Value.int IntKind.i64 y2)))] []) (outL ((Y.ctx call).live 35 4)) =
    bif decide (y2 < (↑y0.length : Int)) then
  bif decide (0 ≤ y2) && decide (y2 < (↑y0.length : Int)) && decide ((y0.getD y2.toNat []).length = 2) then
    bif fitsRow [CK.int IntKind.i64, CK.sl] (y0.getD y2.toNat []) 0 && decide (2 ≤ (y0.getD y2.toNat []).length) then
      bif decide (0 ≤ y2) && decide (y2 < (↑y1.length : Int)) && decide ((y1.getD y2.toNat []).length = 2) then
        bif fitsRow [CK.int IntKind.i64, CK.sl] (y1.getD y2.toNat []) 0 && decide (2 ≤ (y1.getD y2.toNat []).length) then
          (call 58
                [AV.g [A1.v (Value.int IntKind.i64 ((y0.getD y2.toNat []).getD 0 D.h).int), A1.s ((y0.getD y2.toNat []).getD 1 D.h).es],
                  AV.g [A1.v (Value.int IntKind.i64 ((y1.getD y2.toNat []).getD 0 D.h).int), A1.s ((y1.getD y2.toNat []).getD 1 D.h).es]]
                []).bind
            fun val =>
            bif fitsCells [R1.bool] val.1 && true then
              bif !(val.1.getD 0 TC.d).bool then some (Ex.ret, mk 0 27 [(4, AV.one (A1.v (Value.bool false)))] [])
              else some (Ex.normal, mk 0 27 [(0, AV.one (A1.s y0)), (1, AV.one (A1.s y1)), (5, AV.one (A1.v (Value.int IntKind.i64 (IntKind.i64.wrap (y2 + 1)))))] [])
            else none
        else none
      else none
    else none
  else none
else some (Ex.exit 0, mk 0 27 [] []) := by kernel_rfl
theorem r35_4r (call : CallT) (lp : Code → St → Option (Ex × St)) (z0 : Bool) :
    evA (Y.ctx call) 35 lp 4 c35 Ex.ret (mk 0 27 [(4, AV.one (A1.v (Value.bool z0)))] []) (outE (Y.ctx call) 35 Try.f35) =
    some { cells := [TC.v (Value.bool z0)], objs := [] } := by kernel_rfl
theorem r35_4x (call : CallT) (lp : Code → St → Option (Ex × St)) :
    evA (Y.ctx call) 35 lp 4 c35 (Ex.exit 0) (mk 0 27 [] []) (outE (Y.ctx call) 35 Try.f35) =
    some { cells := [TC.v (Value.bool true)], objs := [] } := by kernel_rfl

theorem r36 (call : CallT) (lp : Code → St → Option (Ex × St)) (a0 : List (List D)) (a1 : Int) :
    evK (Y.ctx call) 36 lp c36 (initSt Try.f36 [AV.one (A1.r 0 [] 0), AV.one (A1.v (Value.int IntKind.i64 a1))] [{ kind := Kind.virt, row := [D.s a0], fl := [Own.deep] }]) (outE (Y.ctx call) 36 Try.f36) =
    (lp (bodyAt 2 c36)
      (mk 1 27 [(0, AV.one (A1.r 0 [] 0)), (1, AV.one (A1.v (Value.int IntKind.i64 a1))), (5, AV.one (A1.v (Value.int IntKind.i64 0)))]
        [(0, some { kind := Kind.virt, row := [D.s a0], fl := [Own.deep] })])).bind
  fun r => evA (Y.ctx call) 36 lp 2 c36 r.fst r.snd (outE (Y.ctx call) 36 Try.f36) := by kernel_rfl
theorem r36_2 (call : CallT) (lp : Code → St → Option (Ex × St)) (y0 : Int) (y1 : Int) (y2 : List (List D)) :
    evK (Y.ctx call) 36 lp (bodyAt 2 c36)
  (mk 1 27 [(0, AV.one (A1.r 0 [] 0)), (1, AV.one (A1.v (Value.int IntKind.i64 y0))), (5, AV.one (A1.v (Value.int IntKind.i64 y1)))]
    [(0, some { kind := Kind.virt, row := [D.s y2], fl := [Own.deep] })])
  (outL ((Y.ctx call).live 36 2)) =
    bif decide (y1 < (↑y2.length : Int)) then
  bif decide (0 ≤ y1) && decide (y1 < (↑y2.length : Int)) && decide ((y2.getD y1.toNat []).length = 2) then
    bif decide (1 ≤ (y2.getD y1.toNat []).length) && true then
      bif
          decide (0 ≤ y1) && decide (y1 < (↑(y2.set y1.toNat (D.v (Value.int IntKind.i64 y0) :: List.drop 1 (y2.getD y1.toNat []))).length : Int)) &&
            decide (((y2.set y1.toNat (D.v (Value.int IntKind.i64 y0) :: List.drop 1 (y2.getD y1.toNat []))).getD y1.toNat []).length = 2) then
        bif
            fitsRow [CK.sl] ((y2.set y1.toNat (D.v (Value.int IntKind.i64 y0) :: List.drop 1 (y2.getD y1.toNat []))).getD y1.toNat []) 1 &&
              decide (2 ≤ ((y2.set y1.toNat (D.v (Value.int IntKind.i64 y0) :: List.drop 1 (y2.getD y1.toNat []))).getD y1.toNat []).length) then
          (call 18 [AV.one (A1.r 0 [] 0), AV.one (A1.v (Value.int IntKind.i64 (IntKind.i64.wrap (y0 + 1))))]
                [{ kind := Kind.virt, row := [D.s (((y2.set y1.toNat (D.v (Value.int IntKind.i64 y0) :: List.drop 1 (y2.getD y1.toNat []))).getD y1.toNat []).getD 1 D.h).es], fl := [Own.deep] }]).bind
            fun val =>
            bif
                fitsCells [R1.int IntKind.i64] val.1 &&
                  fitsCos
                    [{
                        ob :=
                          { kind := Kind.virt, row := [D.s (((y2.set y1.toNat (D.v (Value.int IntKind.i64 y0) :: List.drop 1 (y2.getD y1.toNat []))).getD y1.toNat []).getD 1 D.h).es],
                            fl := [Own.deep] },
                        src := Src.sl 0 [(0, y1.toNat)] 1 }]
                    val.2 then
              some
                (Ex.normal,
                  mk 1 27 [(0, AV.one (A1.r 0 [] 0)), (1, AV.one (A1.v (Value.int IntKind.i64 (val.1.getD 0 TC.d).int))), (5, AV.one (A1.v (Value.int IntKind.i64 (IntKind.i64.wrap (y1 + 1)))))]
                    [(0,
                        some
                          { kind := Kind.virt,
                            row :=
                              [D.s
                                  ((y2.set y1.toNat (D.v (Value.int IntKind.i64 y0) :: List.drop 1 (y2.getD y1.toNat []))).set y1.toNat
                                    (((y2.set y1.toNat (D.v (Value.int IntKind.i64 y0) :: List.drop 1 (y2.getD y1.toNat []))).getD y1.toNat []).set 1
                                      (D.s ((val.2.getD 0 { kind := Kind.ro, row := [], fl := [] }).2.getD 0 D.h).es)))],
                            fl := [Own.deep] })])
            else none
        else none
      else none
    else none
  else none
else some (Ex.exit 0, mk 1 27 [(1, AV.one (A1.v (Value.int IntKind.i64 y0)))] [(0, some { kind := Kind.virt, row := [D.s y2], fl := [Own.deep] })]) := by kernel_rfl
theorem r36_2x (call : CallT) (lp : Code → St → Option (Ex × St)) (z0 : Int) (z1 : List (List D)) :
    evA (Y.ctx call) 36 lp 2 c36 (Ex.exit 0) (mk 1 27 [(1, AV.one (A1.v (Value.int IntKind.i64 z0)))] [(0, some { kind := Kind.virt, row := [D.s z1], fl := [Own.deep] })]) (outE (Y.ctx call) 36 Try.f36) =
    some { cells := [TC.v (Value.int IntKind.i64 z0)], objs := [{ kind := Kind.virt, row := [D.s z1], fl := [Own.deep] }] } := by kernel_rfl

theorem r37 (call : CallT) (lp : Code → St → Option (Ex × St)) (a0 : Int) :
    evK (Y.ctx call) 37 lp c37 (initSt Try.f37 [AV.one (A1.v (Value.int IntKind.i64 a0))] []) (outE (Y.ctx call) 37 Try.f37) =
    bif decide (a0 ≤ 0) then some { cells := [TC.v (Value.string { data := #[OfNat.ofNat 109, OfNat.ofNat 48] })], objs := [] }
else
  (lp (bodyAt 4 c37) (mk 0 20 [(0, AV.one (A1.v (Value.int IntKind.i64 a0))), (3, AV.one (A1.v (Value.string { data := #[] })))] [])).bind fun r =>
    evA (Y.ctx call) 37 lp 4 c37 r.fst r.snd (outE (Y.ctx call) 37 Try.f37) := by kernel_rfl
theorem r37_4 (call : CallT) (lp : Code → St → Option (Ex × St)) (y0 : Int) (y1 : ByteArray) :
    evK (Y.ctx call) 37 lp (bodyAt 4 c37) (mk 0 20 [(0, AV.one (A1.v (Value.int IntKind.i64 y0))), (3, AV.one (A1.v (Value.string y1)))] []) (outL ((Y.ctx call).live 37 4)) =
    bif decide (y0 > 0) then
  bif decide (1 + y1.size ≤ 70368744177664) then
    some
      (Ex.normal,
        mk 0 20
          [(0, AV.one (A1.v (Value.int IntKind.i64 (IntKind.i64.wrap (y0.tdiv 10))))),
            (3, AV.one (A1.v (Value.string (strOf [[D.v (Value.int IntKind.u8 (IntKind.u8.wrap (IntKind.i64.wrap (48 + y0.tmod 10))))]] ++ y1))))]
          [])
  else none
else some (Ex.exit 0, mk 0 20 [(3, AV.one (A1.v (Value.string y1)))] []) := by kernel_rfl
theorem r37_4x (call : CallT) (lp : Code → St → Option (Ex × St)) (z0 : ByteArray) :
    evA (Y.ctx call) 37 lp 4 c37 (Ex.exit 0) (mk 0 20 [(3, AV.one (A1.v (Value.string z0)))] []) (outE (Y.ctx call) 37 Try.f37) =
    bif decide (1 + z0.size ≤ 70368744177664) then some { cells := [TC.v (Value.string ({ data := #[OfNat.ofNat 109] } ++ z0))], objs := [] } else none := by kernel_rfl

theorem r47 (call : CallT) (lp : Code → St → Option (Ex × St)) (a0 : List (List D)) (a1 : List (List D)) :
    evK (Y.ctx call) 47 lp c47 (initSt Try.f47 [AV.one (A1.s a0), AV.one (A1.s a1)] []) (outE (Y.ctx call) 47 Try.f47) =
    bif (↑a0.length : Int) == (↑a1.length : Int) then
  (call 66 [AV.one (A1.s a0), AV.one (A1.s a1)] []).bind fun val => bif fitsCells [R1.bool] val.1 && true then some { cells := [TC.v (Value.bool (val.1.getD 0 TC.d).bool)], objs := [] } else none
else some { cells := [TC.v (Value.bool false)], objs := [] } := by kernel_rfl

theorem r50 (call : CallT) (lp : Code → St → Option (Ex × St)) (a0 : Int) (a1 : List (List D)) (a2 : Int) :
    evK (Y.ctx call) 50 lp c50 (initSt Try.f50 [AV.g [A1.v (Value.int IntKind.i64 a0), A1.s a1], AV.one (A1.v (Value.int IntKind.i64 a2))] []) (outE (Y.ctx call) 50 Try.f50) =
    (call 8 [AV.one (A1.s a1), AV.one (A1.v (Value.int IntKind.i64 a2))] []).bind fun val =>
  bif fitsCells [R1.int IntKind.i64] val.1 && true then
    bif decide ((val.1.getD 0 TC.d).int < 0) then some { cells := [TC.v (Value.int IntKind.i64 (-1))], objs := [] }
    else some { cells := [TC.v (Value.int IntKind.i64 (val.1.getD 0 TC.d).int)], objs := [] }
  else none := by kernel_rfl

theorem r51 (call : CallT) (lp : Code → St → Option (Ex × St)) (a0 : Int) (a1 : Int) (a2 : Int) :
    evK (Y.ctx call) 51 lp c51 (initSt Try.f51 [AV.one (A1.v (Value.int IntKind.i64 a0)), AV.one (A1.v (Value.int IntKind.i64 a1)), AV.one (A1.v (Value.int IntKind.i64 a2))] [])
  (outE (Y.ctx call) 51 Try.f51) =
    bif decide (a0 ≥ a1) then some { cells := [TC.v (Value.bool (decide (a0 ≤ a2)))], objs := [] } else some { cells := [TC.v (Value.bool false)], objs := [] } := by kernel_rfl

theorem r52 (call : CallT) (lp : Code → St → Option (Ex × St)) (a0 : List (List D)) :
    evK (Y.ctx call) 52 lp c52 (initSt Try.f52 [AV.one (A1.s a0)] []) (outE (Y.ctx call) 52 Try.f52) =
    (lp (bodyAt 2 c52) (mk 0 19 [(0, AV.one (A1.s a0)), (3, AV.one (A1.v (Value.int IntKind.i64 0)))] [])).bind fun r => evA (Y.ctx call) 52 lp 2 c52 r.fst r.snd (outE (Y.ctx call) 52 Try.f52) := by kernel_rfl
theorem r52_2 (call : CallT) (lp : Code → St → Option (Ex × St)) (y0 : List (List D)) (y1 : Int) :
    evK (Y.ctx call) 52 lp (bodyAt 2 c52) (mk 0 19 [(0, AV.one (A1.s y0)), (3, AV.one (A1.v (Value.int IntKind.i64 y1)))] []) (outL ((Y.ctx call).live 52 2)) =
    bif decide (y1 < (↑y0.length : Int)) then
  bif decide (0 ≤ y1) && decide (y1 < (↑y0.length : Int)) && decide ((y0.getD y1.toNat []).length = 1) then
    bif fitsRow [CK.str] (y0.getD y1.toNat []) 0 && decide (1 ≤ (y0.getD y1.toNat []).length) then
      (call 67 [AV.one (A1.v (Value.string ((y0.getD y1.toNat []).getD 0 D.h).str))] []).bind fun val =>
        bif fitsCells [R1.bool] val.1 && true then
          bif !(val.1.getD 0 TC.d).bool then some (Ex.ret, mk 0 19 [(0, AV.one (A1.s y0)), (2, AV.one (A1.v (Value.bool false)))] [])
          else some (Ex.normal, mk 0 19 [(0, AV.one (A1.s y0)), (3, AV.one (A1.v (Value.int IntKind.i64 (IntKind.i64.wrap (y1 + 1)))))] [])
        else none
    else none
  else none
else some (Ex.exit 0, mk 0 19 [(0, AV.one (A1.s y0))] []) := by kernel_rfl
theorem r52_2r (call : CallT) (lp : Code → St → Option (Ex × St)) (z0 : List (List D)) (z1 : Bool) :
    evA (Y.ctx call) 52 lp 2 c52 Ex.ret (mk 0 19 [(0, AV.one (A1.s z0)), (2, AV.one (A1.v (Value.bool z1)))] []) (outE (Y.ctx call) 52 Try.f52) =
    some { cells := [TC.v (Value.bool z1)], objs := [] } := by kernel_rfl
theorem r52_2x (call : CallT) (lp : Code → St → Option (Ex × St)) (z0 : List (List D)) :
    evA (Y.ctx call) 52 lp 2 c52 (Ex.exit 0) (mk 0 19 [(0, AV.one (A1.s z0))] []) (outE (Y.ctx call) 52 Try.f52) =
    (call 51 [AV.one (A1.v (Value.int IntKind.i64 (↑z0.length : Int))), AV.one (A1.v (Value.int IntKind.i64 1)), AV.one (A1.v (Value.int IntKind.i64 4))] []).bind fun val =>
  bif fitsCells [R1.bool] val.1 && true then some { cells := [TC.v (Value.bool (val.1.getD 0 TC.d).bool)], objs := [] } else none := by kernel_rfl

theorem r53 (call : CallT) (lp : Code → St → Option (Ex × St)) (a0 : List (List D)) (a1 : List (List D)) :
    evK (Y.ctx call) 53 lp c53 (initSt Try.f53 [AV.one (A1.s a0), AV.one (A1.s a1)] []) (outE (Y.ctx call) 53 Try.f53) =
    (lp (bodyAt 2 c53) (mk 0 41 [(0, AV.one (A1.s a0)), (1, AV.one (A1.s a1)), (5, AV.one (A1.v (Value.int IntKind.i64 0)))] [])).bind fun r =>
  evA (Y.ctx call) 53 lp 2 c53 r.fst r.snd (outE (Y.ctx call) 53 Try.f53) := by kernel_rfl
theorem r53_2 (call : CallT) (lp : Code → St → Option (Ex × St)) (y0 : List (List D)) (y1 : List (List D)) (y2 : Int) :
    evK (Y.ctx call) 53 lp (bodyAt 2 c53) (mk 0 41 [(0, AV.one (A1.s y0)), (1, AV.one (A1.s y1)), (5, AV.one (A1.v (Value.int IntKind.i64 y2)))] []) (outL ((Y.ctx call).live 53 2)) =
    bif decide (y2 < (↑y0.length : Int)) then
  bif decide (y2 < (↑y1.length : Int)) then
    bif decide (0 ≤ y2) && decide (y2 < (↑y0.length : Int)) && decide ((y0.getD y2.toNat []).length = 1) then
      bif fitsRow [CK.str] (y0.getD y2.toNat []) 0 && decide (1 ≤ (y0.getD y2.toNat []).length) then
        bif decide (0 ≤ y2) && decide (y2 < (↑y1.length : Int)) && decide ((y1.getD y2.toNat []).length = 1) then
          bif fitsRow [CK.str] (y1.getD y2.toNat []) 0 && decide (1 ≤ (y1.getD y2.toNat []).length) then
            bif !((y0.getD y2.toNat []).getD 0 D.h).str.toList == ((y1.getD y2.toNat []).getD 0 D.h).str.toList then
              bif decide (0 ≤ y2) && decide (y2 < (↑y0.length : Int)) && decide ((y0.getD y2.toNat []).length = 1) then
                bif fitsRow [CK.str] (y0.getD y2.toNat []) 0 && decide (1 ≤ (y0.getD y2.toNat []).length) then
                  bif decide (0 ≤ y2) && decide (y2 < (↑y1.length : Int)) && decide ((y1.getD y2.toNat []).length = 1) then
                    bif fitsRow [CK.str] (y1.getD y2.toNat []) 0 && decide (1 ≤ (y1.getD y2.toNat []).length) then
                      some
                        (Ex.ret,
                          mk 0 41
                            [(0, AV.one (A1.s y0)), (1, AV.one (A1.s y1)),
                              (4, AV.one (A1.v (Value.bool (Op.bytesLess ((y0.getD y2.toNat []).getD 0 D.h).str.toList ((y1.getD y2.toNat []).getD 0 D.h).str.toList))))]
                            [])
                    else none
                  else none
                else none
              else none
            else some (Ex.normal, mk 0 41 [(0, AV.one (A1.s y0)), (1, AV.one (A1.s y1)), (5, AV.one (A1.v (Value.int IntKind.i64 (IntKind.i64.wrap (y2 + 1)))))] [])
          else none
        else none
      else none
    else none
  else some (Ex.exit 0, mk 0 41 [(0, AV.one (A1.s y0)), (1, AV.one (A1.s y1))] [])
else some (Ex.exit 0, mk 0 41 [(0, AV.one (A1.s y0)), (1, AV.one (A1.s y1))] []) := by kernel_rfl
theorem r53_2r (call : CallT) (lp : Code → St → Option (Ex × St)) (z0 : List (List D)) (z1 : List (List D)) (z2 : Bool) :
    evA (Y.ctx call) 53 lp 2 c53 Ex.ret (mk 0 41 [(0, AV.one (A1.s z0)), (1, AV.one (A1.s z1)), (4, AV.one (A1.v (Value.bool z2)))] []) (outE (Y.ctx call) 53 Try.f53) =
    some { cells := [TC.v (Value.bool z2)], objs := [] } := by kernel_rfl
theorem r53_2x (call : CallT) (lp : Code → St → Option (Ex × St)) (z0 : List (List D)) (z1 : List (List D)) :
    evA (Y.ctx call) 53 lp 2 c53 (Ex.exit 0) (mk 0 41 [(0, AV.one (A1.s z0)), (1, AV.one (A1.s z1))] []) (outE (Y.ctx call) 53 Try.f53) =
    some { cells := [TC.v (Value.bool (decide ((↑z0.length : Int) < (↑z1.length : Int))))], objs := [] } := by kernel_rfl

theorem r54 (call : CallT) (lp : Code → St → Option (Ex × St)) (a0 : Int) (a1 : List (List D)) :
    evK (Y.ctx call) 54 lp c54 (initSt Try.f54 [AV.g [A1.v (Value.int IntKind.i64 a0), A1.s a1]] []) (outE (Y.ctx call) 54 Try.f54) =
    (call 11 [AV.one (A1.s a1)] []).bind fun val =>
  bif fitsCells [R1.own Own.deep] val.1 && true then some { cells := [TC.v (Value.int IntKind.i64 a0), TC.o Own.deep (val.1.getD 0 TC.d).es], objs := [] } else none := by kernel_rfl

theorem r55 (call : CallT) (lp : Code → St → Option (Ex × St)) (a0 : List (List D)) (a1 : Int) :
    evK (Y.ctx call) 55 lp c55 (initSt Try.f55 [AV.one (A1.s a0), AV.one (A1.v (Value.int IntKind.i64 a1))] []) (outE (Y.ctx call) 55 Try.f55) =
    (lp (bodyAt 2 c55)
      (mk 0 21
        [(0, AV.one (A1.s a0)), (1, AV.one (A1.v (Value.int IntKind.i64 a1))), (7, AV.one (A1.s a0)), (8, AV.one (A1.v (Value.int IntKind.i64 (↑a0.length : Int)))),
          (9, AV.one (A1.v (Value.int IntKind.i64 0)))]
        [])).bind
  fun r => evA (Y.ctx call) 55 lp 2 c55 r.fst r.snd (outE (Y.ctx call) 55 Try.f55) := by kernel_rfl
theorem r55_2 (call : CallT) (lp : Code → St → Option (Ex × St)) (y0 : List (List D)) (y1 : Int) (y2 : List (List D)) (y3 : Int) (y4 : Int) :
    evK (Y.ctx call) 55 lp (bodyAt 2 c55)
  (mk 0 21 [(0, AV.one (A1.s y0)), (1, AV.one (A1.v (Value.int IntKind.i64 y1))), (7, AV.one (A1.s y2)), (8, AV.one (A1.v (Value.int IntKind.i64 y3))), (9, AV.one (A1.v (Value.int IntKind.i64 y4)))]
    [])
  (outL ((Y.ctx call).live 55 2)) =
    bif decide (y4 < y3) then
  bif decide (0 ≤ y4) && decide (y4 < (↑y2.length : Int)) && decide ((y2.getD y4.toNat []).length = 1) then
    bif fitsRow [CK.str] (y2.getD y4.toNat []) 0 && decide (1 ≤ (y2.getD y4.toNat []).length) then
      (call 68 [AV.one (A1.v (Value.string ((y2.getD y4.toNat []).getD 0 D.h).str))] []).bind fun val =>
        bif fitsCells [R1.bool] val.1 && true then
          bif !(val.1.getD 0 TC.d).bool then some (Ex.ret, mk 0 21 [(0, AV.one (A1.s y0)), (1, AV.one (A1.v (Value.int IntKind.i64 y1))), (4, AV.one (A1.v (Value.bool false)))] [])
          else
            some
              (Ex.normal,
                mk 0 21
                  [(0, AV.one (A1.s y0)), (1, AV.one (A1.v (Value.int IntKind.i64 y1))), (7, AV.one (A1.s y2)), (8, AV.one (A1.v (Value.int IntKind.i64 y3))),
                    (9, AV.one (A1.v (Value.int IntKind.i64 (IntKind.i64.wrap (y4 + 1)))))]
                  [])
        else none
    else none
  else none
else some (Ex.exit 0, mk 0 21 [(0, AV.one (A1.s y0)), (1, AV.one (A1.v (Value.int IntKind.i64 y1)))] []) := by kernel_rfl
theorem r55_2r (call : CallT) (lp : Code → St → Option (Ex × St)) (z0 : List (List D)) (z1 : Int) (z2 : Bool) :
    evA (Y.ctx call) 55 lp 2 c55 Ex.ret (mk 0 21 [(0, AV.one (A1.s z0)), (1, AV.one (A1.v (Value.int IntKind.i64 z1))), (4, AV.one (A1.v (Value.bool z2)))] []) (outE (Y.ctx call) 55 Try.f55) =
    some { cells := [TC.v (Value.bool z2)], objs := [] } := by kernel_rfl
theorem r55_2x (call : CallT) (lp : Code → St → Option (Ex × St)) (z0 : List (List D)) (z1 : Int) :
    evA (Y.ctx call) 55 lp 2 c55 (Ex.exit 0) (mk 0 21 [(0, AV.one (A1.s z0)), (1, AV.one (A1.v (Value.int IntKind.i64 z1)))] []) (outE (Y.ctx call) 55 Try.f55) =
    (call 57 [AV.one (A1.v (Value.int IntKind.i64 (↑z0.length : Int))), AV.one (A1.v (Value.int IntKind.i64 z1)), AV.one (A1.v (Value.int IntKind.i64 4))] []).bind fun val =>
  bif fitsCells [R1.bool] val.1 && true then some { cells := [TC.v (Value.bool (val.1.getD 0 TC.d).bool)], objs := [] } else none := by kernel_rfl

theorem r56 (call : CallT) (lp : Code → St → Option (Ex × St)) (a0 : List (List D)) (a1 : List (List D)) :
    evK (Y.ctx call) 56 lp c56 (initSt Try.f56 [AV.one (A1.s a0), AV.one (A1.s a1)] []) (outE (Y.ctx call) 56 Try.f56) =
    (lp (bodyAt 2 c56)
      (mk 0 36 [(0, AV.one (A1.s a0)), (1, AV.one (A1.s a1)), (9, AV.one (A1.s a0)), (10, AV.one (A1.v (Value.int IntKind.i64 (↑a0.length : Int)))), (11, AV.one (A1.v (Value.int IntKind.i64 0)))]
        [])).bind
  fun r => evA (Y.ctx call) 56 lp 2 c56 r.fst r.snd (outE (Y.ctx call) 56 Try.f56) := by kernel_rfl
theorem r56_2 (call : CallT) (lp : Code → St → Option (Ex × St)) (y0 : List (List D)) (y1 : List (List D)) (y2 : List (List D)) (y3 : Int) (y4 : Int) :
    evK (Y.ctx call) 56 lp (bodyAt 2 c56)
  (mk 0 36 [(0, AV.one (A1.s y0)), (1, AV.one (A1.s y1)), (9, AV.one (A1.s y2)), (10, AV.one (A1.v (Value.int IntKind.i64 y3))), (11, AV.one (A1.v (Value.int IntKind.i64 y4)))] [])
  (outL ((Y.ctx call).live 56 2)) =
    bif decide (y4 < y3) then
  bif decide (0 ≤ y4) && decide (y4 < (↑y2.length : Int)) && decide ((y2.getD y4.toNat []).length = 1) then
    bif fitsRow [CK.str] (y2.getD y4.toNat []) 0 && decide (1 ≤ (y2.getD y4.toNat []).length) then
      bif decide (y4 ≥ (↑y1.length : Int)) then some (Ex.ret, mk 0 36 [(0, AV.one (A1.s y0)), (1, AV.one (A1.s y1)), (4, AV.one (A1.v (Value.int IntKind.i64 1)))] [])
      else
        bif decide (0 ≤ y4) && decide (y4 < (↑y1.length : Int)) && decide ((y1.getD y4.toNat []).length = 1) then
          bif fitsRow [CK.str] (y1.getD y4.toNat []) 0 && decide (1 ≤ (y1.getD y4.toNat []).length) then
            (call 69 [AV.one (A1.v (Value.string ((y2.getD y4.toNat []).getD 0 D.h).str)), AV.one (A1.v (Value.string ((y1.getD y4.toNat []).getD 0 D.h).str))] []).bind fun val =>
              bif fitsCells [R1.int IntKind.i64] val.1 && true then
                bif (val.1.getD 0 TC.d).int != 0 then some (Ex.ret, mk 0 36 [(0, AV.one (A1.s y0)), (1, AV.one (A1.s y1)), (4, AV.one (A1.v (Value.int IntKind.i64 (val.1.getD 0 TC.d).int)))] [])
                else
                  some
                    (Ex.normal,
                      mk 0 36
                        [(0, AV.one (A1.s y0)), (1, AV.one (A1.s y1)), (9, AV.one (A1.s y2)), (10, AV.one (A1.v (Value.int IntKind.i64 y3))),
                          (11, AV.one (A1.v (Value.int IntKind.i64 (IntKind.i64.wrap (y4 + 1)))))]
                        [])
              else none
          else none
        else none
    else none
  else none
else some (Ex.exit 0, mk 0 36 [(0, AV.one (A1.s y0)), (1, AV.one (A1.s y1))] []) := by kernel_rfl
theorem r56_2r (call : CallT) (lp : Code → St → Option (Ex × St)) (z0 : List (List D)) (z1 : List (List D)) (z2 : Int) :
    evA (Y.ctx call) 56 lp 2 c56 Ex.ret (mk 0 36 [(0, AV.one (A1.s z0)), (1, AV.one (A1.s z1)), (4, AV.one (A1.v (Value.int IntKind.i64 z2)))] []) (outE (Y.ctx call) 56 Try.f56) =
    some { cells := [TC.v (Value.int IntKind.i64 z2)], objs := [] } := by kernel_rfl
theorem r56_2x (call : CallT) (lp : Code → St → Option (Ex × St)) (z0 : List (List D)) (z1 : List (List D)) :
    evA (Y.ctx call) 56 lp 2 c56 (Ex.exit 0) (mk 0 36 [(0, AV.one (A1.s z0)), (1, AV.one (A1.s z1))] []) (outE (Y.ctx call) 56 Try.f56) =
    bif decide ((↑z0.length : Int) < (↑z1.length : Int)) then some { cells := [TC.v (Value.int IntKind.i64 (-1))], objs := [] } else some { cells := [TC.v (Value.int IntKind.i64 0)], objs := [] } := by kernel_rfl

theorem r57 (call : CallT) (lp : Code → St → Option (Ex × St)) (a0 : Int) (a1 : Int) (a2 : Int) :
    evK (Y.ctx call) 57 lp c57 (initSt Try.f57 [AV.one (A1.v (Value.int IntKind.i64 a0)), AV.one (A1.v (Value.int IntKind.i64 a1)), AV.one (A1.v (Value.int IntKind.i64 a2))] [])
  (outE (Y.ctx call) 57 Try.f57) =
    bif decide (a0 ≥ a1) then some { cells := [TC.v (Value.bool (decide (a0 ≤ a2)))], objs := [] } else some { cells := [TC.v (Value.bool false)], objs := [] } := by kernel_rfl

theorem r58 (call : CallT) (lp : Code → St → Option (Ex × St)) (a0 : Int) (a1 : List (List D)) (a2 : Int) (a3 : List (List D)) :
    evK (Y.ctx call) 58 lp c58 (initSt Try.f58 [AV.g [A1.v (Value.int IntKind.i64 a0), A1.s a1], AV.g [A1.v (Value.int IntKind.i64 a2), A1.s a3]] []) (outE (Y.ctx call) 58 Try.f58) =
    bif a0 != a2 then some { cells := [TC.v (Value.bool false)], objs := [] }
else
  (call 14 [AV.one (A1.s a1), AV.one (A1.s a3)] []).bind fun val =>
    bif fitsCells [R1.bool] val.1 && true then bif !(val.1.getD 0 TC.d).bool then some { cells := [TC.v (Value.bool false)], objs := [] } else some { cells := [TC.v (Value.bool true)], objs := [] }
    else none := by kernel_rfl

theorem r66 (call : CallT) (lp : Code → St → Option (Ex × St)) (a0 : List (List D)) (a1 : List (List D)) :
    evK (Y.ctx call) 66 lp c66 (initSt Try.f66 [AV.one (A1.s a0), AV.one (A1.s a1)] []) (outE (Y.ctx call) 66 Try.f66) =
    bif decide ((↑a0.length : Int) < (↑a1.length : Int)) then some { cells := [TC.v (Value.bool false)], objs := [] }
else
  (lp (bodyAt 4 c66) (mk 0 26 [(0, AV.one (A1.s a0)), (1, AV.one (A1.s a1)), (5, AV.one (A1.v (Value.int IntKind.i64 0)))] [])).bind fun r =>
    evA (Y.ctx call) 66 lp 4 c66 r.fst r.snd (outE (Y.ctx call) 66 Try.f66) := by kernel_rfl
theorem r66_4 (call : CallT) (lp : Code → St → Option (Ex × St)) (y0 : List (List D)) (y1 : List (List D)) (y2 : Int) :
    evK (Y.ctx call) 66 lp (bodyAt 4 c66) (mk 0 26 [(0, AV.one (A1.s y0)), (1, AV.one (A1.s y1)), (5, AV.one (A1.v (Value.int IntKind.i64 y2)))] []) (outL ((Y.ctx call).live 66 4)) =
    bif decide (y2 < (↑y1.length : Int)) then
  bif decide (0 ≤ y2) && decide (y2 < (↑y0.length : Int)) && decide ((y0.getD y2.toNat []).length = 1) then
    bif fitsRow [CK.str] (y0.getD y2.toNat []) 0 && decide (1 ≤ (y0.getD y2.toNat []).length) then
      bif decide (0 ≤ y2) && decide (y2 < (↑y1.length : Int)) && decide ((y1.getD y2.toNat []).length = 1) then
        bif fitsRow [CK.str] (y1.getD y2.toNat []) 0 && decide (1 ≤ (y1.getD y2.toNat []).length) then
          bif !((y0.getD y2.toNat []).getD 0 D.h).str.toList == ((y1.getD y2.toNat []).getD 0 D.h).str.toList then some (Ex.ret, mk 0 26 [(4, AV.one (A1.v (Value.bool false)))] [])
          else some (Ex.normal, mk 0 26 [(0, AV.one (A1.s y0)), (1, AV.one (A1.s y1)), (5, AV.one (A1.v (Value.int IntKind.i64 (IntKind.i64.wrap (y2 + 1)))))] [])
        else none
      else none
    else none
  else none
else some (Ex.exit 0, mk 0 26 [] []) := by kernel_rfl
theorem r66_4r (call : CallT) (lp : Code → St → Option (Ex × St)) (z0 : Bool) :
    evA (Y.ctx call) 66 lp 4 c66 Ex.ret (mk 0 26 [(4, AV.one (A1.v (Value.bool z0)))] []) (outE (Y.ctx call) 66 Try.f66) =
    some { cells := [TC.v (Value.bool z0)], objs := [] } := by kernel_rfl
theorem r66_4x (call : CallT) (lp : Code → St → Option (Ex × St)) :
    evA (Y.ctx call) 66 lp 4 c66 (Ex.exit 0) (mk 0 26 [] []) (outE (Y.ctx call) 66 Try.f66) =
    some { cells := [TC.v (Value.bool true)], objs := [] } := by kernel_rfl

theorem r67 (call : CallT) (lp : Code → St → Option (Ex × St)) (a0 : ByteArray) :
    evK (Y.ctx call) 67 lp c67 (initSt Try.f67 [AV.one (A1.v (Value.string a0))] []) (outE (Y.ctx call) 67 Try.f67) =
    (lp (bodyAt 2 c67) (mk 0 36 [(0, AV.one (A1.v (Value.string a0))), (3, AV.one (A1.v (Value.int IntKind.i64 0)))] [])).bind fun r =>
  evA (Y.ctx call) 67 lp 2 c67 r.fst r.snd (outE (Y.ctx call) 67 Try.f67) := by kernel_rfl
theorem r67_2 (call : CallT) (lp : Code → St → Option (Ex × St)) (y0 : ByteArray) (y1 : Int) :
    evK (Y.ctx call) 67 lp (bodyAt 2 c67) (mk 0 36 [(0, AV.one (A1.v (Value.string y0))), (3, AV.one (A1.v (Value.int IntKind.i64 y1)))] []) (outL ((Y.ctx call).live 67 2)) =
    bif decide (y1 < (↑y0.size : Int)) then
  bif decide (0 ≤ y1) && decide (y1 < (↑y0.size : Int)) then
    bif decide (byteAt y0 y1.toNat ≥ 97) then
      bif decide (0 ≤ y1) && decide (y1 < (↑y0.size : Int)) then
        bif decide (byteAt y0 y1.toNat ≤ 122) then some (Ex.normal, mk 0 36 [(0, AV.one (A1.v (Value.string y0))), (3, AV.one (A1.v (Value.int IntKind.i64 (IntKind.i64.wrap (y1 + 1)))))] [])
        else
          bif decide (0 ≤ y1) && decide (y1 < (↑y0.size : Int)) then
            bif decide (byteAt y0 y1.toNat ≥ 48) then
              bif decide (0 ≤ y1) && decide (y1 < (↑y0.size : Int)) then
                bif !decide (byteAt y0 y1.toNat ≤ 57) then some (Ex.ret, mk 0 36 [(0, AV.one (A1.v (Value.string y0))), (2, AV.one (A1.v (Value.bool false)))] [])
                else some (Ex.normal, mk 0 36 [(0, AV.one (A1.v (Value.string y0))), (3, AV.one (A1.v (Value.int IntKind.i64 (IntKind.i64.wrap (y1 + 1)))))] [])
              else none
            else some (Ex.ret, mk 0 36 [(0, AV.one (A1.v (Value.string y0))), (2, AV.one (A1.v (Value.bool false)))] [])
          else none
      else none
    else
      bif decide (0 ≤ y1) && decide (y1 < (↑y0.size : Int)) then
        bif decide (byteAt y0 y1.toNat ≥ 48) then
          bif decide (0 ≤ y1) && decide (y1 < (↑y0.size : Int)) then
            bif !decide (byteAt y0 y1.toNat ≤ 57) then some (Ex.ret, mk 0 36 [(0, AV.one (A1.v (Value.string y0))), (2, AV.one (A1.v (Value.bool false)))] [])
            else some (Ex.normal, mk 0 36 [(0, AV.one (A1.v (Value.string y0))), (3, AV.one (A1.v (Value.int IntKind.i64 (IntKind.i64.wrap (y1 + 1)))))] [])
          else none
        else some (Ex.ret, mk 0 36 [(0, AV.one (A1.v (Value.string y0))), (2, AV.one (A1.v (Value.bool false)))] [])
      else none
  else none
else some (Ex.exit 0, mk 0 36 [(0, AV.one (A1.v (Value.string y0)))] []) := by kernel_rfl
theorem r67_2r (call : CallT) (lp : Code → St → Option (Ex × St)) (z0 : ByteArray) (z1 : Bool) :
    evA (Y.ctx call) 67 lp 2 c67 Ex.ret (mk 0 36 [(0, AV.one (A1.v (Value.string z0))), (2, AV.one (A1.v (Value.bool z1)))] []) (outE (Y.ctx call) 67 Try.f67) =
    some { cells := [TC.v (Value.bool z1)], objs := [] } := by kernel_rfl
theorem r67_2x (call : CallT) (lp : Code → St → Option (Ex × St)) (z0 : ByteArray) :
    evA (Y.ctx call) 67 lp 2 c67 (Ex.exit 0) (mk 0 36 [(0, AV.one (A1.v (Value.string z0)))] []) (outE (Y.ctx call) 67 Try.f67) =
    (call 51 [AV.one (A1.v (Value.int IntKind.i64 (↑z0.size : Int))), AV.one (A1.v (Value.int IntKind.i64 1)), AV.one (A1.v (Value.int IntKind.i64 5))] []).bind fun val =>
  bif fitsCells [R1.bool] val.1 && true then some { cells := [TC.v (Value.bool (val.1.getD 0 TC.d).bool)], objs := [] } else none := by kernel_rfl

theorem r68 (call : CallT) (lp : Code → St → Option (Ex × St)) (a0 : ByteArray) :
    evK (Y.ctx call) 68 lp c68 (initSt Try.f68 [AV.one (A1.v (Value.string a0))] []) (outE (Y.ctx call) 68 Try.f68) =
    (lp (bodyAt 2 c68) (mk 0 35 [(0, AV.one (A1.v (Value.string a0))), (5, AV.one (A1.v (Value.int IntKind.i64 (↑a0.size : Int)))), (6, AV.one (A1.v (Value.int IntKind.i64 0)))] [])).bind fun r =>
  evA (Y.ctx call) 68 lp 2 c68 r.fst r.snd (outE (Y.ctx call) 68 Try.f68) := by kernel_rfl
theorem r68_2 (call : CallT) (lp : Code → St → Option (Ex × St)) (y0 : ByteArray) (y1 : Int) (y2 : Int) :
    evK (Y.ctx call) 68 lp (bodyAt 2 c68) (mk 0 35 [(0, AV.one (A1.v (Value.string y0))), (5, AV.one (A1.v (Value.int IntKind.i64 y1))), (6, AV.one (A1.v (Value.int IntKind.i64 y2)))] [])
  (outL ((Y.ctx call).live 68 2)) =
    bif decide (y2 < y1) then
  bif decide (0 ≤ y2) && decide (y2 < (↑y0.size : Int)) then
    bif decide (byteAt y0 y2.toNat < 97) then
      bif decide (0 ≤ y2) && decide (y2 < (↑y0.size : Int)) then
        bif decide (byteAt y0 y2.toNat < 48) then some (Ex.ret, mk 0 35 [(0, AV.one (A1.v (Value.string y0))), (2, AV.one (A1.v (Value.bool false)))] [])
        else
          bif decide (0 ≤ y2) && decide (y2 < (↑y0.size : Int)) then
            bif decide (byteAt y0 y2.toNat > 57) then some (Ex.ret, mk 0 35 [(0, AV.one (A1.v (Value.string y0))), (2, AV.one (A1.v (Value.bool false)))] [])
            else
              some (Ex.normal, mk 0 35 [(0, AV.one (A1.v (Value.string y0))), (5, AV.one (A1.v (Value.int IntKind.i64 y1))), (6, AV.one (A1.v (Value.int IntKind.i64 (IntKind.i64.wrap (y2 + 1)))))] [])
          else none
      else none
    else
      bif decide (0 ≤ y2) && decide (y2 < (↑y0.size : Int)) then
        bif decide (byteAt y0 y2.toNat > 122) then
          bif decide (0 ≤ y2) && decide (y2 < (↑y0.size : Int)) then
            bif decide (byteAt y0 y2.toNat < 48) then some (Ex.ret, mk 0 35 [(0, AV.one (A1.v (Value.string y0))), (2, AV.one (A1.v (Value.bool false)))] [])
            else
              bif decide (0 ≤ y2) && decide (y2 < (↑y0.size : Int)) then
                bif decide (byteAt y0 y2.toNat > 57) then some (Ex.ret, mk 0 35 [(0, AV.one (A1.v (Value.string y0))), (2, AV.one (A1.v (Value.bool false)))] [])
                else
                  some
                    (Ex.normal,
                      mk 0 35 [(0, AV.one (A1.v (Value.string y0))), (5, AV.one (A1.v (Value.int IntKind.i64 y1))), (6, AV.one (A1.v (Value.int IntKind.i64 (IntKind.i64.wrap (y2 + 1)))))] [])
              else none
          else none
        else some (Ex.normal, mk 0 35 [(0, AV.one (A1.v (Value.string y0))), (5, AV.one (A1.v (Value.int IntKind.i64 y1))), (6, AV.one (A1.v (Value.int IntKind.i64 (IntKind.i64.wrap (y2 + 1)))))] [])
      else none
  else none
else some (Ex.exit 0, mk 0 35 [(0, AV.one (A1.v (Value.string y0)))] []) := by kernel_rfl
theorem r68_2r (call : CallT) (lp : Code → St → Option (Ex × St)) (z0 : ByteArray) (z1 : Bool) :
    evA (Y.ctx call) 68 lp 2 c68 Ex.ret (mk 0 35 [(0, AV.one (A1.v (Value.string z0))), (2, AV.one (A1.v (Value.bool z1)))] []) (outE (Y.ctx call) 68 Try.f68) =
    some { cells := [TC.v (Value.bool z1)], objs := [] } := by kernel_rfl
theorem r68_2x (call : CallT) (lp : Code → St → Option (Ex × St)) (z0 : ByteArray) :
    evA (Y.ctx call) 68 lp 2 c68 (Ex.exit 0) (mk 0 35 [(0, AV.one (A1.v (Value.string z0)))] []) (outE (Y.ctx call) 68 Try.f68) =
    (call 57 [AV.one (A1.v (Value.int IntKind.i64 (↑z0.size : Int))), AV.one (A1.v (Value.int IntKind.i64 1)), AV.one (A1.v (Value.int IntKind.i64 5))] []).bind fun val =>
  bif fitsCells [R1.bool] val.1 && true then some { cells := [TC.v (Value.bool (val.1.getD 0 TC.d).bool)], objs := [] } else none := by kernel_rfl

theorem r69 (call : CallT) (lp : Code → St → Option (Ex × St)) (a0 : ByteArray) (a1 : ByteArray) :
    evK (Y.ctx call) 69 lp c69 (initSt Try.f69 [AV.one (A1.v (Value.string a0)), AV.one (A1.v (Value.string a1))] []) (outE (Y.ctx call) 69 Try.f69) =
    (call 73 [AV.one (A1.v (Value.string a0))] []).bind fun val =>
  bif fitsCells [R1.bool] val.1 && true then
    (call 73 [AV.one (A1.v (Value.string a1))] []).bind fun val_1 =>
      bif fitsCells [R1.bool] val_1.1 && true then
        bif (val.1.getD 0 TC.d).bool then
          bif (val_1.1.getD 0 TC.d).bool then some { cells := [TC.v (Value.int IntKind.i64 0)], objs := [] } else some { cells := [TC.v (Value.int IntKind.i64 (-1))], objs := [] }
        else
          bif (val_1.1.getD 0 TC.d).bool then some { cells := [TC.v (Value.int IntKind.i64 1)], objs := [] }
          else
            bif Op.bytesLess a0.toList a1.toList then some { cells := [TC.v (Value.int IntKind.i64 (-1))], objs := [] }
            else
              bif !(Op.bytesLess a0.toList a1.toList || a0.toList == a1.toList) then some { cells := [TC.v (Value.int IntKind.i64 1)], objs := [] }
              else some { cells := [TC.v (Value.int IntKind.i64 0)], objs := [] }
      else none
  else none := by kernel_rfl

theorem r73 (call : CallT) (lp : Code → St → Option (Ex × St)) (a0 : ByteArray) :
    evK (Y.ctx call) 73 lp c73 (initSt Try.f73 [AV.one (A1.v (Value.string a0))] []) (outE (Y.ctx call) 73 Try.f73) =
    some { cells := [TC.v (Value.bool !a0.toList == a0.toList)], objs := [] } := by kernel_rfl

end Go.PVr1
