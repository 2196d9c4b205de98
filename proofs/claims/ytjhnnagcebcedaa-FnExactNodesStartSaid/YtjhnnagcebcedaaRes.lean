/- A part of the proof: PvXRes. -/
import Derived.Test.YtjhnnagcebcedaaTab
import Derived.KernelRfl
set_option linter.unusedSimpArgs false
set_option linter.unusedVariables false
/- PRINTED by a tool of this work (wip/pv/tool/gen2.py): what each function's code comes to. -/
namespace Go.PVx
open Go.PV Go.Proofs
set_option maxRecDepth 100000
set_option linter.unusedVariables false
noncomputable def wFnExactNodesStart.P4 (y0 : Bool) (y1 : Int) (y2 : ByteArray) (y3 : List (List D)) (y4 : List (List D)) : Option Res := evK XX 5 (lpL XX 5) (dropC 4 wFnExactNodesStart.c)
  (mk 0 69 [(1, AV.one (A1.p true 1 [] 0))]
    [(1, some { kind := Kind.box, row := [D.v (Value.bool y0), D.v (Value.int IntKind.i64 y1), D.v (Value.string y2), D.s y3, D.s y4], fl := [Own.deep, Own.deep, Own.deep, Own.sh, Own.sh] })])
  (outE XX 5 Try.f5)
noncomputable def wFnExactNodesStart.P6 (y0 : Bool) (y1 : Int) (y2 : ByteArray) (y3 : List (List D)) (y4 : List (List D)) (y5 : Int) (y6 : List (List D)) (y7 : Bool) (y8 : Int) (y9 : ByteArray) (y10 : List (List D)) (y11 : List (List D)) : Option Res := evK XX 5 (lpL XX 5) (dropC 6 wFnExactNodesStart.c)
  (mk 0 69 [(1, AV.one (A1.p true 1 [] 0)), (4, AV.one (A1.p true 4 [] 0)), (5, AV.one (A1.p true 5 [] 0))]
    [(1, some { kind := Kind.box, row := [D.v (Value.bool y0), D.v (Value.int IntKind.i64 y1), D.v (Value.string y2), D.s y3, D.s y4], fl := [Own.deep, Own.deep, Own.deep, Own.sh, Own.sh] }),
      (4, some { kind := Kind.box, row := [D.v (Value.int IntKind.i64 y5), D.s y6], fl := [Own.deep, Own.sh] }),
      (5, some { kind := Kind.box, row := [D.v (Value.bool y7), D.v (Value.int IntKind.i64 y8), D.v (Value.string y9), D.s y10, D.s y11], fl := [Own.deep, Own.deep, Own.deep, Own.deep, Own.deep] })])
  (outE XX 5 Try.f5)
noncomputable def wFnExactNodesStart.P8 (y0 : Bool) (y1 : Int) (y2 : ByteArray) (y3 : List (List D)) (y4 : List (List D)) (y5 : Int) (y6 : List (List D)) (y7 : Bool) (y8 : Int) (y9 : ByteArray) (y10 : List (List D)) (y11 : List (List D)) (y12 : Int) (y13 : List (List D)) : Option Res := evK XX 5 (lpL XX 5) (dropC 8 wFnExactNodesStart.c)
  (mk 0 69 [(1, AV.one (A1.p true 1 [] 0)), (4, AV.one (A1.p true 4 [] 0)), (5, AV.one (A1.p true 5 [] 0)), (6, AV.one (A1.p true 6 [] 0))]
    [(1, some { kind := Kind.box, row := [D.v (Value.bool y0), D.v (Value.int IntKind.i64 y1), D.v (Value.string y2), D.s y3, D.s y4], fl := [Own.deep, Own.deep, Own.deep, Own.sh, Own.sh] }),
      (4, some { kind := Kind.box, row := [D.v (Value.int IntKind.i64 y5), D.s y6], fl := [Own.deep, Own.sh] }),
      (5, some { kind := Kind.box, row := [D.v (Value.bool y7), D.v (Value.int IntKind.i64 y8), D.v (Value.string y9), D.s y10, D.s y11], fl := [Own.deep, Own.deep, Own.deep, Own.deep, Own.deep] }),
      (6, some { kind := Kind.box, row := [D.v (Value.int IntKind.i64 y12), D.s y13], fl := [Own.deep, Own.deep] })])
  (outE XX 5 Try.f5)
noncomputable def wFnExactNodesStart.P10 (y0 : Int) (y1 : Bool) (y2 : Int) (y3 : ByteArray) (y4 : List (List D)) (y5 : List (List D)) (y6 : Int) (y7 : List (List D)) (y8 : Bool) (y9 : Int) (y10 : ByteArray) (y11 : List (List D)) (y12 : List (List D)) (y13 : Int) (y14 : List (List D)) : Option Res := evK XX 5 (lpL XX 5) (dropC 10 wFnExactNodesStart.c)
  (mk 0 69 [(1, AV.one (A1.p true 1 [] 0)), (4, AV.one (A1.p true 4 [] 0)), (5, AV.one (A1.p true 5 [] 0)), (6, AV.one (A1.p true 6 [] 0)), (7, AV.one (A1.v (Value.int IntKind.i64 y0)))]
    [(1, some { kind := Kind.box, row := [D.v (Value.bool y1), D.v (Value.int IntKind.i64 y2), D.v (Value.string y3), D.s y4, D.s y5], fl := [Own.deep, Own.deep, Own.deep, Own.sh, Own.sh] }),
      (4, some { kind := Kind.box, row := [D.v (Value.int IntKind.i64 y6), D.s y7], fl := [Own.deep, Own.sh] }),
      (5, some { kind := Kind.box, row := [D.v (Value.bool y8), D.v (Value.int IntKind.i64 y9), D.v (Value.string y10), D.s y11, D.s y12], fl := [Own.deep, Own.deep, Own.deep, Own.deep, Own.deep] }),
      (6, some { kind := Kind.box, row := [D.v (Value.int IntKind.i64 y13), D.s y14], fl := [Own.deep, Own.deep] })])
  (outE XX 5 Try.f5)
noncomputable def wFnExactNodesStart.P12 (y0 : Bool) (y1 : Int) (y2 : ByteArray) (y3 : List (List D)) (y4 : List (List D)) (y5 : Int) (y6 : List (List D)) (y7 : Int) (y8 : List (List D)) : Option Res := evK XX 5 (lpL XX 5) (dropC 12 wFnExactNodesStart.c)
  (mk 0 69 [(1, AV.one (A1.p true 1 [] 0)), (4, AV.one (A1.p true 4 [] 0)), (6, AV.one (A1.p true 6 [] 0))]
    [(1, some { kind := Kind.box, row := [D.v (Value.bool y0), D.v (Value.int IntKind.i64 y1), D.v (Value.string y2), D.s y3, D.s y4], fl := [Own.deep, Own.deep, Own.deep, Own.sh, Own.sh] }),
      (4, some { kind := Kind.box, row := [D.v (Value.int IntKind.i64 y5), D.s y6], fl := [Own.deep, Own.sh] }),
      (6, some { kind := Kind.box, row := [D.v (Value.int IntKind.i64 y7), D.s y8], fl := [Own.deep, Own.deep] })])
  (outE XX 5 Try.f5)
noncomputable def wFnExactNodesStart.P16 (y0 : Int) (y1 : Int) (y2 : Bool) (y3 : Int) (y4 : ByteArray) (y5 : List (List D)) (y6 : List (List D)) (y7 : Int) (y8 : List (List D)) (y9 : Int) (y10 : List (List D)) : Option Res := evK XX 5 (lpL XX 5) (dropC 16 wFnExactNodesStart.c)
  (mk 0 69
    [(1, AV.one (A1.p true 1 [] 0)), (4, AV.one (A1.p true 4 [] 0)), (6, AV.one (A1.p true 6 [] 0)), (8, AV.one (A1.v (Value.int IntKind.i64 y0))), (9, AV.one (A1.v (Value.int IntKind.i64 y1)))]
    [(1, some { kind := Kind.box, row := [D.v (Value.bool y2), D.v (Value.int IntKind.i64 y3), D.v (Value.string y4), D.s y5, D.s y6], fl := [Own.deep, Own.deep, Own.deep, Own.sh, Own.sh] }),
      (4, some { kind := Kind.box, row := [D.v (Value.int IntKind.i64 y7), D.s y8], fl := [Own.deep, Own.sh] }),
      (6, some { kind := Kind.box, row := [D.v (Value.int IntKind.i64 y9), D.s y10], fl := [Own.deep, Own.deep] })])
  (outE XX 5 Try.f5)
noncomputable def wFnExactNodesStart.P19 (y0 : Int) (y1 : Int) (y2 : List (List D)) (y3 : Int) (y4 : List (List D)) (y5 : Int) (y6 : List (List D)) : Option Res := evK XX 5 (lpL XX 5) (dropC 19 wFnExactNodesStart.c)
  (mk 0 69 [(4, AV.one (A1.p true 4 [] 0)), (6, AV.one (A1.p true 6 [] 0)), (8, AV.one (A1.v (Value.int IntKind.i64 y0))), (10, AV.one (A1.p true 10 [] 0))]
    [(4, some { kind := Kind.box, row := [D.v (Value.int IntKind.i64 y1), D.s y2], fl := [Own.deep, Own.sh] }),
      (6, some { kind := Kind.box, row := [D.v (Value.int IntKind.i64 y3), D.s y4], fl := [Own.deep, Own.deep] }),
      (10, some { kind := Kind.box, row := [D.v (Value.int IntKind.i64 y5), D.s y6], fl := [Own.deep, Own.deep] })])
  (outE XX 5 Try.f5)
noncomputable def wFnExactNodesStart.P22 (y0 : Int) (y1 : Int) : Option Res := evK XX 5 (lpL XX 5) (dropC 22 wFnExactNodesStart.c) (mk 0 69 [(8, AV.one (A1.v (Value.int IntKind.i64 y0))), (9, AV.one (A1.v (Value.int IntKind.i64 y1)))] []) (outE XX 5 Try.f5)
theorem wFnExactNodesStart.e (a0 : Bool) (a1 : Int) (a2 : ByteArray) (a3 : List (List D)) (a4 : List (List D)) :
    wFnExactNodesStart [AV.g [A1.v (Value.bool a0), A1.v (Value.int IntKind.i64 a1), A1.v (Value.string a2), A1.s a3, A1.s a4]] [] =
    (wszTree [AV.g [A1.v (Value.bool a0), A1.v (Value.int IntKind.i64 a1), A1.v (Value.string a2), A1.s a3, A1.s a4], AV.one (A1.v (Value.int IntKind.i64 1048576))] []).bind fun val =>
  bif fitsCells [R1.int IntKind.i64] val.1 && true then bif decide ((val.1.getD 0 TC.d).int < 0) then some { cells := [TC.v (Value.bool true)], objs := [] } else wFnExactNodesStart.P4 a0 a1 a2 a3 a4
  else none := by
  refine (wFnExactNodesStart.run _ _ (by kernel_rfl)).trans ?_
  delta wFnExactNodesStart wszTree wFnExactNodesStart.P4 XX
  refine cut_use0 3 4 rfl (wFnExactNodesStart.c) (by kernel_rfl) fun K e1 => ?_
  try simp only [← e1]
  clear e1
  generalize lpL (Y.ctx (lim' Y)) 5 = lp
  generalize lim' Y = call
  kernel_rfl
theorem wFnExactNodesStart.p4 (y0 : Bool) (y1 : Int) (y2 : ByteArray) (y3 : List (List D)) (y4 : List (List D)) :
    wFnExactNodesStart.P4 y0 y1 y2 y3 y4 =
    (wtoTree [AV.g [A1.v (Value.bool y0), A1.v (Value.int IntKind.i64 y1), A1.v (Value.string y2), A1.s y3, A1.s y4]] []).bind fun val =>
  bif fitsCells [R1.bool, R1.int IntKind.i64, R1.str, R1.own Own.deep, R1.own Own.deep] val.1 && true then
    (sNodesStart
          [AV.g
              [A1.v (Value.bool (val.1.getD 0 TC.d).bool), A1.v (Value.int IntKind.i64 (val.1.getD 1 TC.d).int), A1.v (Value.string (val.1.getD 2 TC.d).str), A1.s (val.1.getD 3 TC.d).es,
                A1.s (val.1.getD 4 TC.d).es]]
          []).bind
      fun val =>
      bif fitsCells [R1.int IntKind.i64, R1.sh] val.1 && true then
        (wtoTree [AV.g [A1.v (Value.bool y0), A1.v (Value.int IntKind.i64 y1), A1.v (Value.string y2), A1.s y3, A1.s y4]] []).bind fun val_1 =>
          bif fitsCells [R1.bool, R1.int IntKind.i64, R1.str, R1.own Own.deep, R1.own Own.deep] val_1.1 && true then
            wFnExactNodesStart.P6 y0 y1 y2 y3 y4 (val.1.getD 0 TC.d).int (val.1.getD 1 TC.d).es (val_1.1.getD 0 TC.d).bool (val_1.1.getD 1 TC.d).int (val_1.1.getD 2 TC.d).str (val_1.1.getD 3 TC.d).es
              (val_1.1.getD 4 TC.d).es
          else none
      else none
  else none := by
  delta wFnExactNodesStart.P4 wtoTree sNodesStart wFnExactNodesStart.P6 XX
  refine cut_use 4 1 6 rfl (wFnExactNodesStart.c) (by kernel_rfl) fun K e1 => ?_
  try simp only [← e1]
  clear e1
  generalize lpL (Y.ctx (lim' Y)) 5 = lp
  generalize lim' Y = call
  kernel_rfl
theorem wFnExactNodesStart.p6 (y0 : Bool) (y1 : Int) (y2 : ByteArray) (y3 : List (List D)) (y4 : List (List D)) (y5 : Int) (y6 : List (List D)) (y7 : Bool) (y8 : Int) (y9 : ByteArray) (y10 : List (List D)) (y11 : List (List D)) :
    wFnExactNodesStart.P6 y0 y1 y2 y3 y4 y5 y6 y7 y8 y9 y10 y11 =
    (iNodesStart [AV.g [A1.v (Value.bool y7), A1.v (Value.int IntKind.i64 y8), A1.v (Value.string y9), A1.s y10, A1.s y11]] []).bind fun val =>
  bif fitsCells [R1.int IntKind.i64, R1.own Own.deep] val.1 && true then
    (weqNodes [AV.g [A1.v (Value.int IntKind.i64 (val.1.getD 0 TC.d).int), A1.s (val.1.getD 1 TC.d).es], AV.g [A1.v (Value.int IntKind.i64 y5), A1.s y6]] []).bind fun val_1 =>
      bif fitsCells [R1.bool] val_1.1 && true then
        bif !(val_1.1.getD 0 TC.d).bool then some { cells := [TC.v (Value.bool false)], objs := [] }
        else wFnExactNodesStart.P8 y0 y1 y2 y3 y4 y5 y6 y7 y8 y9 y10 y11 (val.1.getD 0 TC.d).int (val.1.getD 1 TC.d).es
      else none
  else none := by
  delta wFnExactNodesStart.P6 iNodesStart weqNodes wFnExactNodesStart.P8 XX
  refine cut_use 6 1 8 rfl (wFnExactNodesStart.c) (by kernel_rfl) fun K e1 => ?_
  try simp only [← e1]
  clear e1
  generalize lpL (Y.ctx (lim' Y)) 5 = lp
  generalize lim' Y = call
  kernel_rfl
theorem wFnExactNodesStart.p8 (y0 : Bool) (y1 : Int) (y2 : ByteArray) (y3 : List (List D)) (y4 : List (List D)) (y5 : Int) (y6 : List (List D)) (y7 : Bool) (y8 : Int) (y9 : ByteArray) (y10 : List (List D)) (y11 : List (List D)) (y12 : Int) (y13 : List (List D)) :
    wFnExactNodesStart.P8 y0 y1 y2 y3 y4 y5 y6 y7 y8 y9 y10 y11 y12 y13 =
    (wtoTree [AV.g [A1.v (Value.bool y0), A1.v (Value.int IntKind.i64 y1), A1.v (Value.string y2), A1.s y3, A1.s y4]] []).bind fun val =>
  bif fitsCells [R1.bool, R1.int IntKind.i64, R1.str, R1.own Own.deep, R1.own Own.deep] val.1 && true then
    (weqTree
          [AV.g [A1.v (Value.bool y7), A1.v (Value.int IntKind.i64 y8), A1.v (Value.string y9), A1.s y10, A1.s y11],
            AV.g
              [A1.v (Value.bool (val.1.getD 0 TC.d).bool), A1.v (Value.int IntKind.i64 (val.1.getD 1 TC.d).int), A1.v (Value.string (val.1.getD 2 TC.d).str), A1.s (val.1.getD 3 TC.d).es,
                A1.s (val.1.getD 4 TC.d).es]]
          []).bind
      fun val =>
      bif fitsCells [R1.bool] val.1 && true then
        bif !(val.1.getD 0 TC.d).bool then some { cells := [TC.v (Value.bool false)], objs := [] } else wFnExactNodesStart.P10 1 y0 y1 y2 y3 y4 y5 y6 y7 y8 y9 y10 y11 y12 y13
      else none
  else none := by
  delta wFnExactNodesStart.P8 wtoTree weqTree wFnExactNodesStart.P10 XX
  refine cut_use 8 1 10 rfl (wFnExactNodesStart.c) (by kernel_rfl) fun K e1 => ?_
  try simp only [← e1]
  clear e1
  generalize lpL (Y.ctx (lim' Y)) 5 = lp
  generalize lim' Y = call
  kernel_rfl
theorem wFnExactNodesStart.p10 (y0 : Int) (y1 : Bool) (y2 : Int) (y3 : ByteArray) (y4 : List (List D)) (y5 : List (List D)) (y6 : Int) (y7 : List (List D)) (y8 : Bool) (y9 : Int) (y10 : ByteArray) (y11 : List (List D)) (y12 : List (List D)) (y13 : Int) (y14 : List (List D)) :
    wFnExactNodesStart.P10 y0 y1 y2 y3 y4 y5 y6 y7 y8 y9 y10 y11 y12 y13 y14 =
    (wmarkTree [AV.g [A1.v (Value.bool y8), A1.v (Value.int IntKind.i64 y9), A1.v (Value.string y10), A1.r 0 [] 0, A1.r 0 [] 1], AV.one (A1.v (Value.int IntKind.i64 y0))]
      [{ kind := Kind.virt, row := [D.s y11, D.s y12], fl := [Own.deep, Own.deep] }]).bind
  fun val =>
  bif fitsCells [R1.int IntKind.i64] val.1 && fitsCos [{ ob := { kind := Kind.virt, row := [D.s y11, D.s y12], fl := [Own.deep, Own.deep] }, src := Src.grp 5 [3, 4] }] val.2 then
    bif decide ((val.1.getD 0 TC.d).int < 0) then some { cells := [TC.v (Value.bool false)], objs := [] }
    else
      (weqNodes [AV.g [A1.v (Value.int IntKind.i64 y13), A1.s y14], AV.g [A1.v (Value.int IntKind.i64 y6), A1.s y7]] []).bind fun val =>
        bif fitsCells [R1.bool] val.1 && true then bif !(val.1.getD 0 TC.d).bool then some { cells := [TC.v (Value.bool false)], objs := [] } else wFnExactNodesStart.P12 y1 y2 y3 y4 y5 y6 y7 y13 y14
        else none
  else none := by
  delta wFnExactNodesStart.P10 wmarkTree weqNodes wFnExactNodesStart.P12 XX
  refine cut_use 10 1 12 rfl (wFnExactNodesStart.c) (by kernel_rfl) fun K e1 => ?_
  try simp only [← e1]
  clear e1
  generalize lpL (Y.ctx (lim' Y)) 5 = lp
  generalize lim' Y = call
  kernel_rfl
theorem wFnExactNodesStart.p12 (y0 : Bool) (y1 : Int) (y2 : ByteArray) (y3 : List (List D)) (y4 : List (List D)) (y5 : Int) (y6 : List (List D)) (y7 : Int) (y8 : List (List D)) :
    wFnExactNodesStart.P12 y0 y1 y2 y3 y4 y5 y6 y7 y8 =
    (wmarkNodes [AV.g [A1.v (Value.int IntKind.i64 y7), A1.r 0 [] 0], AV.one (A1.v (Value.int IntKind.i64 1))] [{ kind := Kind.virt, row := [D.s y8], fl := [Own.deep] }]).bind fun val =>
  bif fitsCells [R1.int IntKind.i64] val.1 && fitsCos [{ ob := { kind := Kind.virt, row := [D.s y8], fl := [Own.deep] }, src := Src.sl 6 [] 1 }] val.2 then
    (wheldNodes [AV.g [A1.v (Value.int IntKind.i64 y7), A1.s ((val.2.getD 0 { kind := Kind.ro, row := [], fl := [] }).2.getD 0 D.h).es], AV.one (A1.v (Value.int IntKind.i64 1))] []).bind fun val_1 =>
      bif fitsCells [R1.int IntKind.i64] val_1.1 && true then
        wFnExactNodesStart.P16 (val.1.getD 0 TC.d).int (val_1.1.getD 0 TC.d).int y0 y1 y2 y3 y4 y5 y6 y7 ((val.2.getD 0 { kind := Kind.ro, row := [], fl := [] }).2.getD 0 D.h).es
      else none
  else none := by
  delta wFnExactNodesStart.P12 wmarkNodes wheldNodes wFnExactNodesStart.P16 XX
  refine cut_use 12 3 16 rfl (wFnExactNodesStart.c) (by kernel_rfl) fun K e1 => ?_
  try simp only [← e1]
  clear e1
  generalize lpL (Y.ctx (lim' Y)) 5 = lp
  generalize lim' Y = call
  kernel_rfl
theorem wFnExactNodesStart.p16 (y0 : Int) (y1 : Int) (y2 : Bool) (y3 : Int) (y4 : ByteArray) (y5 : List (List D)) (y6 : List (List D)) (y7 : Int) (y8 : List (List D)) (y9 : Int) (y10 : List (List D)) :
    wFnExactNodesStart.P16 y0 y1 y2 y3 y4 y5 y6 y7 y8 y9 y10 =
    bif decide (y1 < 0) then some { cells := [TC.v (Value.bool false)], objs := [] }
else
  bif y1 != y0 then some { cells := [TC.v (Value.bool false)], objs := [] }
  else
    (wtoTree [AV.g [A1.v (Value.bool y2), A1.v (Value.int IntKind.i64 y3), A1.v (Value.string y4), A1.s y5, A1.s y6]] []).bind fun val =>
      bif fitsCells [R1.bool, R1.int IntKind.i64, R1.str, R1.own Own.deep, R1.own Own.deep] val.1 && true then
        (iNodesStart
              [AV.g
                  [A1.v (Value.bool (val.1.getD 0 TC.d).bool), A1.v (Value.int IntKind.i64 (val.1.getD 1 TC.d).int), A1.v (Value.string (val.1.getD 2 TC.d).str), A1.s (val.1.getD 3 TC.d).es,
                    A1.s (val.1.getD 4 TC.d).es]]
              []).bind
          fun val => bif fitsCells [R1.int IntKind.i64, R1.own Own.deep] val.1 && true then wFnExactNodesStart.P19 y0 y7 y8 y9 y10 (val.1.getD 0 TC.d).int (val.1.getD 1 TC.d).es else none
      else none := by
  delta wFnExactNodesStart.P16 wtoTree iNodesStart wFnExactNodesStart.P19 XX
  refine cut_use 16 2 19 rfl (wFnExactNodesStart.c) (by kernel_rfl) fun K e1 => ?_
  try simp only [← e1]
  clear e1
  generalize lpL (Y.ctx (lim' Y)) 5 = lp
  generalize lim' Y = call
  kernel_rfl
theorem wFnExactNodesStart.p19 (y0 : Int) (y1 : Int) (y2 : List (List D)) (y3 : Int) (y4 : List (List D)) (y5 : Int) (y6 : List (List D)) :
    wFnExactNodesStart.P19 y0 y1 y2 y3 y4 y5 y6 =
    (weqNodes [AV.g [A1.v (Value.int IntKind.i64 y5), A1.s y6], AV.g [A1.v (Value.int IntKind.i64 y1), A1.s y2]] []).bind fun val =>
  bif fitsCells [R1.bool] val.1 && true then
    bif !(val.1.getD 0 TC.d).bool then some { cells := [TC.v (Value.bool false)], objs := [] }
    else
      (wheldNodes [AV.g [A1.v (Value.int IntKind.i64 y3), A1.s y4], AV.one (A1.v (Value.int IntKind.i64 1))] []).bind fun val =>
        bif fitsCells [R1.int IntKind.i64] val.1 && true then wFnExactNodesStart.P22 y0 (val.1.getD 0 TC.d).int else none
  else none := by
  delta wFnExactNodesStart.P19 weqNodes wheldNodes wFnExactNodesStart.P22 XX
  refine cut_use 19 2 22 rfl (wFnExactNodesStart.c) (by kernel_rfl) fun K e1 => ?_
  try simp only [← e1]
  clear e1
  generalize lpL (Y.ctx (lim' Y)) 5 = lp
  generalize lim' Y = call
  kernel_rfl
theorem wFnExactNodesStart.p22 (y0 : Int) (y1 : Int) :
    wFnExactNodesStart.P22 y0 y1 =
    bif decide (y1 < 0) then some { cells := [TC.v (Value.bool false)], objs := [] }
else bif y1 != y0 then some { cells := [TC.v (Value.bool false)], objs := [] } else some { cells := [TC.v (Value.bool true)], objs := [] } := by
  delta wFnExactNodesStart.P22 XX
  generalize lpL (Y.ctx (lim' Y)) 5 = lp
  generalize lim' Y = call
  kernel_rfl


noncomputable def wFnExactNodesOk.P4 (y0 : Int) (y1 : Int) (y2 : List (List D)) (y3 : Bool) (y4 : Int) (y5 : ByteArray) (y6 : List (List D)) (y7 : List (List D)) : Option Res := evK XX 6 (lpL XX 6) (dropC 4 wFnExactNodesOk.c)
  (mk 0 45 [(2, AV.one (A1.p true 2 [] 0)), (3, AV.one (A1.p true 3 [] 0)), (5, AV.one (A1.v (Value.int IntKind.i64 y0)))]
    [(2, some { kind := Kind.box, row := [D.v (Value.int IntKind.i64 y1), D.s y2], fl := [Own.deep, Own.sh] }),
      (3, some { kind := Kind.box, row := [D.v (Value.bool y3), D.v (Value.int IntKind.i64 y4), D.v (Value.string y5), D.s y6, D.s y7], fl := [Own.deep, Own.deep, Own.deep, Own.sh, Own.sh] })])
  (outE XX 6 Try.f6)
noncomputable def wFnExactNodesOk.P7 (y0 : Bool) (y1 : Int) (y2 : List (List D)) (y3 : Bool) (y4 : Int) (y5 : ByteArray) (y6 : List (List D)) (y7 : List (List D)) : Option Res := evK XX 6 (lpL XX 6) (dropC 7 wFnExactNodesOk.c)
  (mk 0 45 [(2, AV.one (A1.p true 2 [] 0)), (3, AV.one (A1.p true 3 [] 0)), (6, AV.one (A1.v (Value.bool y0)))]
    [(2, some { kind := Kind.box, row := [D.v (Value.int IntKind.i64 y1), D.s y2], fl := [Own.deep, Own.sh] }),
      (3, some { kind := Kind.box, row := [D.v (Value.bool y3), D.v (Value.int IntKind.i64 y4), D.v (Value.string y5), D.s y6, D.s y7], fl := [Own.deep, Own.deep, Own.deep, Own.sh, Own.sh] })])
  (outE XX 6 Try.f6)
noncomputable def wFnExactNodesOk.P9 (y0 : Bool) (y1 : Int) (y2 : List (List D)) (y3 : Bool) (y4 : Int) (y5 : ByteArray) (y6 : List (List D)) (y7 : List (List D)) (y8 : Int) (y9 : List (List D)) (y10 : Bool) (y11 : Int) (y12 : ByteArray) (y13 : List (List D)) (y14 : List (List D)) : Option Res := evK XX 6 (lpL XX 6) (dropC 9 wFnExactNodesOk.c)
  (mk 0 45 [(2, AV.one (A1.p true 2 [] 0)), (3, AV.one (A1.p true 3 [] 0)), (6, AV.one (A1.v (Value.bool y0))), (7, AV.one (A1.p true 7 [] 0)), (8, AV.one (A1.p true 8 [] 0))]
    [(2, some { kind := Kind.box, row := [D.v (Value.int IntKind.i64 y1), D.s y2], fl := [Own.deep, Own.sh] }),
      (3, some { kind := Kind.box, row := [D.v (Value.bool y3), D.v (Value.int IntKind.i64 y4), D.v (Value.string y5), D.s y6, D.s y7], fl := [Own.deep, Own.deep, Own.deep, Own.sh, Own.sh] }),
      (7, some { kind := Kind.box, row := [D.v (Value.int IntKind.i64 y8), D.s y9], fl := [Own.deep, Own.deep] }),
      (8,
        some { kind := Kind.box, row := [D.v (Value.bool y10), D.v (Value.int IntKind.i64 y11), D.v (Value.string y12), D.s y13, D.s y14], fl := [Own.deep, Own.deep, Own.deep, Own.deep, Own.deep] })])
  (outE XX 6 Try.f6)
noncomputable def wFnExactNodesOk.P12 (y0 : Bool) (y1 : Int) (y2 : ByteArray) (y3 : List (List D)) (y4 : List (List D)) (y5 : Bool) (y6 : Int) (y7 : ByteArray) (y8 : List (List D)) (y9 : List (List D)) : Option Res := evK XX 6 (lpL XX 6) (dropC 12 wFnExactNodesOk.c)
  (mk 0 45 [(3, AV.one (A1.p true 3 [] 0)), (8, AV.one (A1.p true 8 [] 0))]
    [(3, some { kind := Kind.box, row := [D.v (Value.bool y0), D.v (Value.int IntKind.i64 y1), D.v (Value.string y2), D.s y3, D.s y4], fl := [Own.deep, Own.deep, Own.deep, Own.sh, Own.sh] }),
      (8, some { kind := Kind.box, row := [D.v (Value.bool y5), D.v (Value.int IntKind.i64 y6), D.v (Value.string y7), D.s y8, D.s y9], fl := [Own.deep, Own.deep, Own.deep, Own.deep, Own.deep] })])
  (outE XX 6 Try.f6)
theorem wFnExactNodesOk.e (a0 : Int) (a1 : List (List D)) (a2 : Bool) (a3 : Int) (a4 : ByteArray) (a5 : List (List D)) (a6 : List (List D)) :
    wFnExactNodesOk [AV.g [A1.v (Value.int IntKind.i64 a0), A1.s a1], AV.g [A1.v (Value.bool a2), A1.v (Value.int IntKind.i64 a3), A1.v (Value.string a4), A1.s a5, A1.s a6]] [] =
    (wszNodes [AV.g [A1.v (Value.int IntKind.i64 a0), A1.s a1], AV.one (A1.v (Value.int IntKind.i64 1048576))] []).bind fun val =>
  bif fitsCells [R1.int IntKind.i64] val.1 && true then
    bif decide ((val.1.getD 0 TC.d).int < 0) then some { cells := [TC.v (Value.bool true)], objs := [] } else wFnExactNodesOk.P4 (val.1.getD 0 TC.d).int a0 a1 a2 a3 a4 a5 a6
  else none := by
  refine (wFnExactNodesOk.run _ _ (by kernel_rfl)).trans ?_
  delta wFnExactNodesOk wszNodes wFnExactNodesOk.P4 XX
  refine cut_use0 3 4 rfl (wFnExactNodesOk.c) (by kernel_rfl) fun K e1 => ?_
  try simp only [← e1]
  clear e1
  generalize lpL (Y.ctx (lim' Y)) 6 = lp
  generalize lim' Y = call
  kernel_rfl
theorem wFnExactNodesOk.p4 (y0 : Int) (y1 : Int) (y2 : List (List D)) (y3 : Bool) (y4 : Int) (y5 : ByteArray) (y6 : List (List D)) (y7 : List (List D)) :
    wFnExactNodesOk.P4 y0 y1 y2 y3 y4 y5 y6 y7 =
    (wszTree [AV.g [A1.v (Value.bool y3), A1.v (Value.int IntKind.i64 y4), A1.v (Value.string y5), A1.s y6, A1.s y7], AV.one (A1.v (Value.int IntKind.i64 y0))] []).bind fun val =>
  bif fitsCells [R1.int IntKind.i64] val.1 && true then
    bif decide ((val.1.getD 0 TC.d).int < 0) then some { cells := [TC.v (Value.bool true)], objs := [] }
    else
      (wtoNodes [AV.g [A1.v (Value.int IntKind.i64 y1), A1.s y2]] []).bind fun val =>
        bif fitsCells [R1.int IntKind.i64, R1.own Own.deep] val.1 && true then
          (wtoTree [AV.g [A1.v (Value.bool y3), A1.v (Value.int IntKind.i64 y4), A1.v (Value.string y5), A1.s y6, A1.s y7]] []).bind fun val_1 =>
            bif fitsCells [R1.bool, R1.int IntKind.i64, R1.str, R1.own Own.deep, R1.own Own.deep] val_1.1 && true then
              (sNodesOk
                    [AV.g [A1.v (Value.int IntKind.i64 (val.1.getD 0 TC.d).int), A1.s (val.1.getD 1 TC.d).es],
                      AV.g
                        [A1.v (Value.bool (val_1.1.getD 0 TC.d).bool), A1.v (Value.int IntKind.i64 (val_1.1.getD 1 TC.d).int), A1.v (Value.string (val_1.1.getD 2 TC.d).str),
                          A1.s (val_1.1.getD 3 TC.d).es, A1.s (val_1.1.getD 4 TC.d).es]]
                    []).bind
                fun val => bif fitsCells [R1.bool] val.1 && true then wFnExactNodesOk.P7 (val.1.getD 0 TC.d).bool y1 y2 y3 y4 y5 y6 y7 else none
            else none
        else none
  else none := by
  delta wFnExactNodesOk.P4 wszTree wtoNodes wtoTree sNodesOk wFnExactNodesOk.P7 XX
  refine cut_use 4 2 7 rfl (wFnExactNodesOk.c) (by kernel_rfl) fun K e1 => ?_
  try simp only [← e1]
  clear e1
  generalize lpL (Y.ctx (lim' Y)) 6 = lp
  generalize lim' Y = call
  kernel_rfl
theorem wFnExactNodesOk.p7 (y0 : Bool) (y1 : Int) (y2 : List (List D)) (y3 : Bool) (y4 : Int) (y5 : ByteArray) (y6 : List (List D)) (y7 : List (List D)) :
    wFnExactNodesOk.P7 y0 y1 y2 y3 y4 y5 y6 y7 =
    (wtoNodes [AV.g [A1.v (Value.int IntKind.i64 y1), A1.s y2]] []).bind fun val =>
  bif fitsCells [R1.int IntKind.i64, R1.own Own.deep] val.1 && true then
    (wtoTree [AV.g [A1.v (Value.bool y3), A1.v (Value.int IntKind.i64 y4), A1.v (Value.string y5), A1.s y6, A1.s y7]] []).bind fun val_1 =>
      bif fitsCells [R1.bool, R1.int IntKind.i64, R1.str, R1.own Own.deep, R1.own Own.deep] val_1.1 && true then
        wFnExactNodesOk.P9 y0 y1 y2 y3 y4 y5 y6 y7 (val.1.getD 0 TC.d).int (val.1.getD 1 TC.d).es (val_1.1.getD 0 TC.d).bool (val_1.1.getD 1 TC.d).int (val_1.1.getD 2 TC.d).str
          (val_1.1.getD 3 TC.d).es (val_1.1.getD 4 TC.d).es
      else none
  else none := by
  delta wFnExactNodesOk.P7 wtoNodes wtoTree wFnExactNodesOk.P9 XX
  refine cut_use 7 1 9 rfl (wFnExactNodesOk.c) (by kernel_rfl) fun K e1 => ?_
  try simp only [← e1]
  clear e1
  generalize lpL (Y.ctx (lim' Y)) 6 = lp
  generalize lim' Y = call
  kernel_rfl
theorem wFnExactNodesOk.p9 (y0 : Bool) (y1 : Int) (y2 : List (List D)) (y3 : Bool) (y4 : Int) (y5 : ByteArray) (y6 : List (List D)) (y7 : List (List D)) (y8 : Int) (y9 : List (List D)) (y10 : Bool) (y11 : Int) (y12 : ByteArray) (y13 : List (List D)) (y14 : List (List D)) :
    wFnExactNodesOk.P9 y0 y1 y2 y3 y4 y5 y6 y7 y8 y9 y10 y11 y12 y13 y14 =
    (iNodesOk [AV.g [A1.v (Value.int IntKind.i64 y8), A1.s y9], AV.g [A1.v (Value.bool y10), A1.v (Value.int IntKind.i64 y11), A1.v (Value.string y12), A1.s y13, A1.s y14]] []).bind fun val =>
  bif fitsCells [R1.bool] val.1 && true then
    bif !(val.1.getD 0 TC.d).bool == y0 then some { cells := [TC.v (Value.bool false)], objs := [] }
    else
      (wtoNodes [AV.g [A1.v (Value.int IntKind.i64 y1), A1.s y2]] []).bind fun val =>
        bif fitsCells [R1.int IntKind.i64, R1.own Own.deep] val.1 && true then
          (weqNodes [AV.g [A1.v (Value.int IntKind.i64 y8), A1.s y9], AV.g [A1.v (Value.int IntKind.i64 (val.1.getD 0 TC.d).int), A1.s (val.1.getD 1 TC.d).es]] []).bind fun val =>
            bif fitsCells [R1.bool] val.1 && true then
              bif !(val.1.getD 0 TC.d).bool then some { cells := [TC.v (Value.bool false)], objs := [] } else wFnExactNodesOk.P12 y3 y4 y5 y6 y7 y10 y11 y12 y13 y14
            else none
        else none
  else none := by
  delta wFnExactNodesOk.P9 iNodesOk wtoNodes weqNodes wFnExactNodesOk.P12 XX
  refine cut_use 9 2 12 rfl (wFnExactNodesOk.c) (by kernel_rfl) fun K e1 => ?_
  try simp only [← e1]
  clear e1
  generalize lpL (Y.ctx (lim' Y)) 6 = lp
  generalize lim' Y = call
  kernel_rfl
theorem wFnExactNodesOk.p12 (y0 : Bool) (y1 : Int) (y2 : ByteArray) (y3 : List (List D)) (y4 : List (List D)) (y5 : Bool) (y6 : Int) (y7 : ByteArray) (y8 : List (List D)) (y9 : List (List D)) :
    wFnExactNodesOk.P12 y0 y1 y2 y3 y4 y5 y6 y7 y8 y9 =
    (wtoTree [AV.g [A1.v (Value.bool y0), A1.v (Value.int IntKind.i64 y1), A1.v (Value.string y2), A1.s y3, A1.s y4]] []).bind fun val =>
  bif fitsCells [R1.bool, R1.int IntKind.i64, R1.str, R1.own Own.deep, R1.own Own.deep] val.1 && true then
    (weqTree
          [AV.g [A1.v (Value.bool y5), A1.v (Value.int IntKind.i64 y6), A1.v (Value.string y7), A1.s y8, A1.s y9],
            AV.g
              [A1.v (Value.bool (val.1.getD 0 TC.d).bool), A1.v (Value.int IntKind.i64 (val.1.getD 1 TC.d).int), A1.v (Value.string (val.1.getD 2 TC.d).str), A1.s (val.1.getD 3 TC.d).es,
                A1.s (val.1.getD 4 TC.d).es]]
          []).bind
      fun val =>
      bif fitsCells [R1.bool] val.1 && true then bif !(val.1.getD 0 TC.d).bool then some { cells := [TC.v (Value.bool false)], objs := [] } else some { cells := [TC.v (Value.bool true)], objs := [] }
      else none
  else none := by
  delta wFnExactNodesOk.P12 wtoTree weqTree XX
  generalize lpL (Y.ctx (lim' Y)) 6 = lp
  generalize lim' Y = call
  kernel_rfl


theorem wszNodes.e (a0 : Int) (a1 : List (List D)) (a2 : Int) :
    wszNodes [AV.g [A1.v (Value.int IntKind.i64 a0), A1.s a1], AV.one (A1.v (Value.int IntKind.i64 a2))] [] =
    (wszNodeOfS [AV.one (A1.s a1), AV.one (A1.v (Value.int IntKind.i64 a2))] []).bind fun val =>
  bif fitsCells [R1.int IntKind.i64] val.1 && true then
    bif decide ((val.1.getD 0 TC.d).int < 0) then some { cells := [TC.v (Value.int IntKind.i64 (-1))], objs := [] }
    else some { cells := [TC.v (Value.int IntKind.i64 (val.1.getD 0 TC.d).int)], objs := [] }
  else none := by
  refine (wszNodes.run _ _ (by kernel_rfl)).trans ?_
  delta wszNodes wszNodeOfS XX
  generalize lpL (Y.ctx (lim' Y)) 7 = lp
  generalize lim' Y = call
  kernel_rfl


noncomputable def wszStringS.L5 (y0 : List (List D)) (y1 : Int) (y2 : Int) : Option (Ex × St) := lpL XX 8 (bodyAt 5 wszStringS.c) (mk 0 28 [(0, AV.one (A1.s y0)), (1, AV.one (A1.v (Value.int IntKind.i64 y1))), (5, AV.one (A1.v (Value.int IntKind.i64 y2)))] [])
noncomputable def wszStringS.A5 : Ex × St → Option Res := fun r => evA XX 8 (lpL XX 8) 5 wszStringS.c r.fst r.snd (outE XX 8 Try.f8)
noncomputable def wszStringS.q5 (y0 : Int) (y1 : Int) : Ex × St := (Ex.ret, mk 0 28 [(1, AV.one (A1.v (Value.int IntKind.i64 y0))), (4, AV.one (A1.v (Value.int IntKind.i64 y1)))] [])
noncomputable def wszStringS.x5 (y0 : Int) : Ex × St := (Ex.exit 0, mk 0 28 [(1, AV.one (A1.v (Value.int IntKind.i64 y0)))] [])
theorem wszStringS.e (a0 : List (List D)) (a1 : Int) :
    wszStringS [AV.one (A1.s a0), AV.one (A1.v (Value.int IntKind.i64 a1))] [] =
    bif decide (IntKind.i64.wrap (a1 - (↑a0.length : Int)) < 0) then some { cells := [TC.v (Value.int IntKind.i64 (-1))], objs := [] }
else (wszStringS.L5 a0 (IntKind.i64.wrap (a1 - (↑a0.length : Int))) 0).bind wszStringS.A5 := by
  refine (wszStringS.run _ _ (by kernel_rfl)).trans ?_
  delta wszStringS wszStringS.L5 wszStringS.A5 XX
  generalize lpL (Y.ctx (lim' Y)) 8 = lp
  generalize lim' Y = call
  kernel_rfl
theorem wszStringS.s5 (y0 : List (List D)) (y1 : Int) (y2 : Int) :
    wszStringS.L5 y0 y1 y2 =
    bif decide (y2 < (↑y0.length : Int)) then
  bif decide (0 ≤ y2) && decide (y2 < (↑y0.length : Int)) && decide ((y0.getD y2.toNat []).length = 1) then
    bif fitsRow [CK.str] (y0.getD y2.toNat []) 0 && decide (1 ≤ (y0.getD y2.toNat []).length) then
      bif decide (IntKind.i64.wrap (y1 - (↑((y0.getD y2.toNat []).getD 0 D.h).str.size : Int)) < 0) then
        some (wszStringS.q5 (IntKind.i64.wrap (y1 - (↑((y0.getD y2.toNat []).getD 0 D.h).str.size : Int))) (-1))
      else wszStringS.L5 y0 (IntKind.i64.wrap (y1 - (↑((y0.getD y2.toNat []).getD 0 D.h).str.size : Int))) (IntKind.i64.wrap (y2 + 1))
    else none
  else none
else some (wszStringS.x5 y1) := by
  refine (lpL_eq (Y := Y) (c := lim' Y) (fn := 8) (rid := 5) (b := bodyAt 5 wszStringS.c) (by kernel_rfl) _).trans ?_
  delta wszStringS.L5 wszStringS.q5 wszStringS.x5 XX
  generalize lpL (Y.ctx (lim' Y)) 8 = lp
  generalize lim' Y = call
  kernel_rfl
theorem wszStringS.a5q5 (y0 : Int) (y1 : Int) :
    wszStringS.A5 (wszStringS.q5 y0 y1) =
    some { cells := [TC.v (Value.int IntKind.i64 y1)], objs := [] } := by
  delta wszStringS.A5 wszStringS.q5 XX
  generalize lpL (Y.ctx (lim' Y)) 8 = lp
  generalize lim' Y = call
  kernel_rfl
theorem wszStringS.a5x5 (y0 : Int) :
    wszStringS.A5 (wszStringS.x5 y0) =
    some { cells := [TC.v (Value.int IntKind.i64 y0)], objs := [] } := by
  delta wszStringS.A5 wszStringS.x5 XX
  generalize lpL (Y.ctx (lim' Y)) 8 = lp
  generalize lim' Y = call
  kernel_rfl


theorem wtoNodes.e (a0 : Int) (a1 : List (List D)) :
    wtoNodes [AV.g [A1.v (Value.int IntKind.i64 a0), A1.s a1]] [] =
    (wtoNodeOfS [AV.one (A1.s a1)] []).bind fun val =>
  bif fitsCells [R1.own Own.deep] val.1 && true then some { cells := [TC.v (Value.int IntKind.i64 a0), TC.o Own.deep (val.1.getD 0 TC.d).es], objs := [] } else none := by
  refine (wtoNodes.run _ _ (by kernel_rfl)).trans ?_
  delta wtoNodes wtoNodeOfS XX
  generalize lpL (Y.ctx (lim' Y)) 10 = lp
  generalize lim' Y = call
  kernel_rfl


noncomputable def wtoStringS.L3 (y0 : List (List D)) (y1 : Int) (y2 : List (List D)) : Option (Ex × St) := lpL XX 11 (bodyAt 3 wtoStringS.c)
  (mk 0 22 [(0, AV.one (A1.s y0)), (3, AV.one (A1.r 3 [] 0)), (4, AV.one (A1.v (Value.int IntKind.i64 y1)))] [(3, some { kind := Kind.virt, row := [D.s y2], fl := [Own.deep] })])
noncomputable def wtoStringS.A3 : Ex × St → Option Res := fun r => evA XX 11 (lpL XX 11) 3 wtoStringS.c r.fst r.snd (outE XX 11 Try.f11)
noncomputable def wtoStringS.x3 (y0 : List (List D)) : Ex × St := (Ex.exit 0, mk 0 22 [(3, AV.one (A1.r 3 [] 0))] [(3, some { kind := Kind.virt, row := [D.s y0], fl := [Own.deep] })])
theorem wtoStringS.e (a0 : List (List D)) :
    wtoStringS [AV.one (A1.s a0)] [] =
    bif decide ((↑a0.length : Int) * ((↑16 : Int) + 1) ≤ 2 ^ 46) && true && true then (wtoStringS.L3 a0 0 (List.replicate (↑a0.length : Int).toNat [D.v (Value.string { data := #[] })])).bind wtoStringS.A3
else none := by
  refine (wtoStringS.run _ _ (by kernel_rfl)).trans ?_
  delta wtoStringS wtoStringS.L3 wtoStringS.A3 XX
  generalize lpL (Y.ctx (lim' Y)) 11 = lp
  generalize lim' Y = call
  kernel_rfl
theorem wtoStringS.s3 (y0 : List (List D)) (y1 : Int) (y2 : List (List D)) :
    wtoStringS.L3 y0 y1 y2 =
    bif decide (y1 < (↑y0.length : Int)) then
  bif decide (0 ≤ y1) && decide (y1 < (↑y0.length : Int)) && decide ((y0.getD y1.toNat []).length = 1) then
    bif fitsRow [CK.str] (y0.getD y1.toNat []) 0 && decide (1 ≤ (y0.getD y1.toNat []).length) then
      bif decide (0 ≤ y1) && decide (y1 < (↑y2.length : Int)) && decide ((y2.getD y1.toNat []).length = 1) then
        bif decide (1 ≤ (y2.getD y1.toNat []).length) && true then
          wtoStringS.L3 y0 (IntKind.i64.wrap (y1 + 1)) (y2.set y1.toNat (D.v (Value.string ((y0.getD y1.toNat []).getD 0 D.h).str) :: List.drop 1 (y2.getD y1.toNat [])))
        else none
      else none
    else none
  else none
else some (wtoStringS.x3 y2) := by
  refine (lpL_eq (Y := Y) (c := lim' Y) (fn := 11) (rid := 3) (b := bodyAt 3 wtoStringS.c) (by kernel_rfl) _).trans ?_
  delta wtoStringS.L3 wtoStringS.x3 XX
  generalize lpL (Y.ctx (lim' Y)) 11 = lp
  generalize lim' Y = call
  kernel_rfl
theorem wtoStringS.a3x3 (y0 : List (List D)) :
    wtoStringS.A3 (wtoStringS.x3 y0) =
    some { cells := [TC.o Own.deep y0], objs := [] } := by
  delta wtoStringS.A3 wtoStringS.x3 XX
  generalize lpL (Y.ctx (lim' Y)) 11 = lp
  generalize lim' Y = call
  kernel_rfl


theorem weqNodes.e (a0 : Int) (a1 : List (List D)) (a2 : Int) (a3 : List (List D)) :
    weqNodes [AV.g [A1.v (Value.int IntKind.i64 a0), A1.s a1], AV.g [A1.v (Value.int IntKind.i64 a2), A1.s a3]] [] =
    bif a0 != a2 then some { cells := [TC.v (Value.bool false)], objs := [] }
else
  (weqNodeOfS [AV.one (A1.s a1), AV.one (A1.s a3)] []).bind fun val =>
    bif fitsCells [R1.bool] val.1 && true then bif !(val.1.getD 0 TC.d).bool then some { cells := [TC.v (Value.bool false)], objs := [] } else some { cells := [TC.v (Value.bool true)], objs := [] }
    else none := by
  refine (weqNodes.run _ _ (by kernel_rfl)).trans ?_
  delta weqNodes weqNodeOfS XX
  generalize lpL (Y.ctx (lim' Y)) 13 = lp
  generalize lim' Y = call
  kernel_rfl


noncomputable def weqStringS.L4 (y0 : List (List D)) (y1 : List (List D)) (y2 : Int) : Option (Ex × St) := lpL XX 14 (bodyAt 4 weqStringS.c) (mk 0 26 [(0, AV.one (A1.s y0)), (1, AV.one (A1.s y1)), (5, AV.one (A1.v (Value.int IntKind.i64 y2)))] [])
noncomputable def weqStringS.A4 : Ex × St → Option Res := fun r => evA XX 14 (lpL XX 14) 4 weqStringS.c r.fst r.snd (outE XX 14 Try.f14)
noncomputable def weqStringS.q4 (y0 : Bool) : Ex × St := (Ex.ret, mk 0 26 [(4, AV.one (A1.v (Value.bool y0)))] [])
noncomputable def weqStringS.x4 : Ex × St := (Ex.exit 0, mk 0 26 [] [])
theorem weqStringS.e (a0 : List (List D)) (a1 : List (List D)) :
    weqStringS [AV.one (A1.s a0), AV.one (A1.s a1)] [] =
    bif (↑a0.length : Int) != (↑a1.length : Int) then some { cells := [TC.v (Value.bool false)], objs := [] } else (weqStringS.L4 a0 a1 0).bind weqStringS.A4 := by
  refine (weqStringS.run _ _ (by kernel_rfl)).trans ?_
  delta weqStringS weqStringS.L4 weqStringS.A4 XX
  generalize lpL (Y.ctx (lim' Y)) 14 = lp
  generalize lim' Y = call
  kernel_rfl
theorem weqStringS.s4 (y0 : List (List D)) (y1 : List (List D)) (y2 : Int) :
    weqStringS.L4 y0 y1 y2 =
    bif decide (y2 < (↑y0.length : Int)) then
  bif decide (0 ≤ y2) && decide (y2 < (↑y0.length : Int)) && decide ((y0.getD y2.toNat []).length = 1) then
    bif fitsRow [CK.str] (y0.getD y2.toNat []) 0 && decide (1 ≤ (y0.getD y2.toNat []).length) then
      bif decide (0 ≤ y2) && decide (y2 < (↑y1.length : Int)) && decide ((y1.getD y2.toNat []).length = 1) then
        bif fitsRow [CK.str] (y1.getD y2.toNat []) 0 && decide (1 ≤ (y1.getD y2.toNat []).length) then
          bif !((y0.getD y2.toNat []).getD 0 D.h).str.toList == ((y1.getD y2.toNat []).getD 0 D.h).str.toList then some (weqStringS.q4 false) else weqStringS.L4 y0 y1 (IntKind.i64.wrap (y2 + 1))
        else none
      else none
    else none
  else none
else some weqStringS.x4 := by
  refine (lpL_eq (Y := Y) (c := lim' Y) (fn := 14) (rid := 4) (b := bodyAt 4 weqStringS.c) (by kernel_rfl) _).trans ?_
  delta weqStringS.L4 weqStringS.q4 weqStringS.x4 XX
  generalize lpL (Y.ctx (lim' Y)) 14 = lp
  generalize lim' Y = call
  kernel_rfl
theorem weqStringS.a4q4 (y0 : Bool) :
    weqStringS.A4 (weqStringS.q4 y0) =
    some { cells := [TC.v (Value.bool y0)], objs := [] } := by
  delta weqStringS.A4 weqStringS.q4 XX
  generalize lpL (Y.ctx (lim' Y)) 14 = lp
  generalize lim' Y = call
  kernel_rfl
theorem weqStringS.a4x4 :
    weqStringS.A4 weqStringS.x4 =
    some { cells := [TC.v (Value.bool true)], objs := [] } := by
  delta weqStringS.A4 weqStringS.x4 XX
  generalize lpL (Y.ctx (lim' Y)) 14 = lp
  generalize lim' Y = call
  kernel_rfl


theorem wmarkNodes.e (a0 : Int) (a1 : List (List D)) (a2 : Int) :
    wmarkNodes [AV.g [A1.v (Value.int IntKind.i64 a0), A1.r 0 [] 0], AV.one (A1.v (Value.int IntKind.i64 a2))] [{ kind := Kind.virt, row := [D.s a1], fl := [Own.deep] }] =
    (wmarkNodeOfS [AV.one (A1.r 0 [] 0), AV.one (A1.v (Value.int IntKind.i64 a2))] [{ kind := Kind.virt, row := [D.s a1], fl := [Own.deep] }]).bind fun val =>
  bif fitsCells [R1.int IntKind.i64] val.1 && fitsCos [{ ob := { kind := Kind.virt, row := [D.s a1], fl := [Own.deep] }, src := Src.sl 0 [] 0 }] val.2 then
    some
      { cells := [TC.v (Value.int IntKind.i64 (val.1.getD 0 TC.d).int)],
        objs := [{ kind := Kind.virt, row := [D.s ((val.2.getD 0 { kind := Kind.ro, row := [], fl := [] }).2.getD 0 D.h).es], fl := [Own.deep] }] }
  else none := by
  refine (wmarkNodes.run _ _ (by kernel_rfl)).trans ?_
  delta wmarkNodes wmarkNodeOfS XX
  generalize lpL (Y.ctx (lim' Y)) 17 = lp
  generalize lim' Y = call
  kernel_rfl


noncomputable def wmarkStringS.L2 (y0 : Int) (y1 : Int) (y2 : List (List D)) : Option (Ex × St) := lpL XX 18 (bodyAt 2 wmarkStringS.c)
  (mk 1 20 [(0, AV.one (A1.r 0 [] 0)), (1, AV.one (A1.v (Value.int IntKind.i64 y0))), (5, AV.one (A1.v (Value.int IntKind.i64 y1)))]
    [(0, some { kind := Kind.virt, row := [D.s y2], fl := [Own.deep] })])
noncomputable def wmarkStringS.A2 : Ex × St → Option Res := fun r => evA XX 18 (lpL XX 18) 2 wmarkStringS.c r.fst r.snd (outE XX 18 Try.f18)
noncomputable def wmarkStringS.x2 (y0 : Int) (y1 : List (List D)) : Ex × St := (Ex.exit 0, mk 1 20 [(1, AV.one (A1.v (Value.int IntKind.i64 y0)))] [(0, some { kind := Kind.virt, row := [D.s y1], fl := [Own.deep] })])
theorem wmarkStringS.e (a0 : List (List D)) (a1 : Int) :
    wmarkStringS [AV.one (A1.r 0 [] 0), AV.one (A1.v (Value.int IntKind.i64 a1))] [{ kind := Kind.virt, row := [D.s a0], fl := [Own.deep] }] =
    (wmarkStringS.L2 a1 0 a0).bind wmarkStringS.A2 := by
  refine (wmarkStringS.run _ _ (by kernel_rfl)).trans ?_
  delta wmarkStringS wmarkStringS.L2 wmarkStringS.A2 XX
  generalize lpL (Y.ctx (lim' Y)) 18 = lp
  generalize lim' Y = call
  kernel_rfl
theorem wmarkStringS.s2 (y0 : Int) (y1 : Int) (y2 : List (List D)) :
    wmarkStringS.L2 y0 y1 y2 =
    bif decide (y1 < (↑y2.length : Int)) then
  (wmarkText [AV.one (A1.v (Value.int IntKind.i64 y0))] []).bind fun val =>
    bif fitsCells [R1.str] val.1 && true then
      bif decide (0 ≤ y1) && decide (y1 < (↑y2.length : Int)) && decide ((y2.getD y1.toNat []).length = 1) then
        bif decide (1 ≤ (y2.getD y1.toNat []).length) && true then
          wmarkStringS.L2 (IntKind.i64.wrap (y0 + 1)) (IntKind.i64.wrap (y1 + 1)) (y2.set y1.toNat (D.v (Value.string (val.1.getD 0 TC.d).str) :: List.drop 1 (y2.getD y1.toNat [])))
        else none
      else none
    else none
else some (wmarkStringS.x2 y0 y2) := by
  refine (lpL_eq (Y := Y) (c := lim' Y) (fn := 18) (rid := 2) (b := bodyAt 2 wmarkStringS.c) (by kernel_rfl) _).trans ?_
  delta wmarkStringS.L2 wmarkText wmarkStringS.x2 XX
  generalize lpL (Y.ctx (lim' Y)) 18 = lp
  generalize lim' Y = call
  kernel_rfl
theorem wmarkStringS.a2x2 (y0 : Int) (y1 : List (List D)) :
    wmarkStringS.A2 (wmarkStringS.x2 y0 y1) =
    some { cells := [TC.v (Value.int IntKind.i64 y0)], objs := [{ kind := Kind.virt, row := [D.s y1], fl := [Own.deep] }] } := by
  delta wmarkStringS.A2 wmarkStringS.x2 XX
  generalize lpL (Y.ctx (lim' Y)) 18 = lp
  generalize lim' Y = call
  kernel_rfl


noncomputable def wheldStringS.L2 (y0 : List (List D)) (y1 : Int) (y2 : Int) : Option (Ex × St) := lpL XX 19 (bodyAt 2 wheldStringS.c) (mk 0 22 [(0, AV.one (A1.s y0)), (1, AV.one (A1.v (Value.int IntKind.i64 y1))), (5, AV.one (A1.v (Value.int IntKind.i64 y2)))] [])
noncomputable def wheldStringS.A2 : Ex × St → Option Res := fun r => evA XX 19 (lpL XX 19) 2 wheldStringS.c r.fst r.snd (outE XX 19 Try.f19)
noncomputable def wheldStringS.q2 (y0 : Int) (y1 : Int) : Ex × St := (Ex.ret, mk 0 22 [(1, AV.one (A1.v (Value.int IntKind.i64 y0))), (4, AV.one (A1.v (Value.int IntKind.i64 y1)))] [])
noncomputable def wheldStringS.x2 (y0 : Int) : Ex × St := (Ex.exit 0, mk 0 22 [(1, AV.one (A1.v (Value.int IntKind.i64 y0)))] [])
theorem wheldStringS.e (a0 : List (List D)) (a1 : Int) :
    wheldStringS [AV.one (A1.s a0), AV.one (A1.v (Value.int IntKind.i64 a1))] [] =
    (wheldStringS.L2 a0 a1 0).bind wheldStringS.A2 := by
  refine (wheldStringS.run _ _ (by kernel_rfl)).trans ?_
  delta wheldStringS wheldStringS.L2 wheldStringS.A2 XX
  generalize lpL (Y.ctx (lim' Y)) 19 = lp
  generalize lim' Y = call
  kernel_rfl
theorem wheldStringS.s2 (y0 : List (List D)) (y1 : Int) (y2 : Int) :
    wheldStringS.L2 y0 y1 y2 =
    bif decide (y2 < (↑y0.length : Int)) then
  bif decide (0 ≤ y2) && decide (y2 < (↑y0.length : Int)) && decide ((y0.getD y2.toNat []).length = 1) then
    bif fitsRow [CK.str] (y0.getD y2.toNat []) 0 && decide (1 ≤ (y0.getD y2.toNat []).length) then
      (wmarkText [AV.one (A1.v (Value.int IntKind.i64 y1))] []).bind fun val =>
        bif fitsCells [R1.str] val.1 && true then
          bif !((y0.getD y2.toNat []).getD 0 D.h).str.toList == (val.1.getD 0 TC.d).str.toList then some (wheldStringS.q2 y1 (-1))
          else wheldStringS.L2 y0 (IntKind.i64.wrap (y1 + 1)) (IntKind.i64.wrap (y2 + 1))
        else none
    else none
  else none
else some (wheldStringS.x2 y1) := by
  refine (lpL_eq (Y := Y) (c := lim' Y) (fn := 19) (rid := 2) (b := bodyAt 2 wheldStringS.c) (by kernel_rfl) _).trans ?_
  delta wheldStringS.L2 wmarkText wheldStringS.q2 wheldStringS.x2 XX
  generalize lpL (Y.ctx (lim' Y)) 19 = lp
  generalize lim' Y = call
  kernel_rfl
theorem wheldStringS.a2q2 (y0 : Int) (y1 : Int) :
    wheldStringS.A2 (wheldStringS.q2 y0 y1) =
    some { cells := [TC.v (Value.int IntKind.i64 y1)], objs := [] } := by
  delta wheldStringS.A2 wheldStringS.q2 XX
  generalize lpL (Y.ctx (lim' Y)) 19 = lp
  generalize lim' Y = call
  kernel_rfl
theorem wheldStringS.a2x2 (y0 : Int) :
    wheldStringS.A2 (wheldStringS.x2 y0) =
    some { cells := [TC.v (Value.int IntKind.i64 y0)], objs := [] } := by
  delta wheldStringS.A2 wheldStringS.x2 XX
  generalize lpL (Y.ctx (lim' Y)) 19 = lp
  generalize lim' Y = call
  kernel_rfl


noncomputable def wszTree.P3 (y0 : Int) (y1 : Bool) (y2 : Int) (y3 : ByteArray) (y4 : List (List D)) (y5 : List (List D)) : Option Res := evK XX 20 (lpL XX 20) (dropC 3 wszTree.c)
  (mk 0 25 [(1, AV.one (A1.v (Value.int IntKind.i64 y0))), (2, AV.one (A1.p true 2 [] 0))]
    [(2, some { kind := Kind.box, row := [D.v (Value.bool y1), D.v (Value.int IntKind.i64 y2), D.v (Value.string y3), D.s y4, D.s y5], fl := [Own.deep, Own.deep, Own.deep, Own.sh, Own.sh] })])
  (outE XX 20 Try.f20)
noncomputable def wszTree.P6 (y0 : Int) : Option Res := evK XX 20 (lpL XX 20) (dropC 6 wszTree.c) (mk 0 25 [(1, AV.one (A1.v (Value.int IntKind.i64 y0)))] []) (outE XX 20 Try.f20)
theorem wszTree.e (a0 : Bool) (a1 : Int) (a2 : ByteArray) (a3 : List (List D)) (a4 : List (List D)) (a5 : Int) :
    wszTree [AV.g [A1.v (Value.bool a0), A1.v (Value.int IntKind.i64 a1), A1.v (Value.string a2), A1.s a3, A1.s a4], AV.one (A1.v (Value.int IntKind.i64 a5))] [] =
    bif decide (IntKind.i64.wrap (a5 - (↑a2.size : Int)) < 0) then some { cells := [TC.v (Value.int IntKind.i64 (-1))], objs := [] }
else wszTree.P3 (IntKind.i64.wrap (a5 - (↑a2.size : Int))) a0 a1 a2 a3 a4 := by
  refine (wszTree.run _ _ (by kernel_rfl)).trans ?_
  delta wszTree wszTree.P3 XX
  refine cut_use0 2 3 rfl (wszTree.c) (by kernel_rfl) fun K e1 => ?_
  try simp only [← e1]
  clear e1
  generalize lpL (Y.ctx (lim' Y)) 20 = lp
  generalize lim' Y = call
  kernel_rfl
theorem wszTree.p3 (y0 : Int) (y1 : Bool) (y2 : Int) (y3 : ByteArray) (y4 : List (List D)) (y5 : List (List D)) :
    wszTree.P3 y0 y1 y2 y3 y4 y5 =
    (wszStringS [AV.one (A1.s y4), AV.one (A1.v (Value.int IntKind.i64 y0))] []).bind fun val =>
  bif fitsCells [R1.int IntKind.i64] val.1 && true then
    bif decide ((val.1.getD 0 TC.d).int < 0) then some { cells := [TC.v (Value.int IntKind.i64 (-1))], objs := [] }
    else
      (wszTreeS [AV.one (A1.s y5), AV.one (A1.v (Value.int IntKind.i64 (val.1.getD 0 TC.d).int))] []).bind fun val =>
        bif fitsCells [R1.int IntKind.i64] val.1 && true then wszTree.P6 (val.1.getD 0 TC.d).int else none
  else none := by
  delta wszTree.P3 wszStringS wszTreeS wszTree.P6 XX
  refine cut_use 3 2 6 rfl (wszTree.c) (by kernel_rfl) fun K e1 => ?_
  try simp only [← e1]
  clear e1
  generalize lpL (Y.ctx (lim' Y)) 20 = lp
  generalize lim' Y = call
  kernel_rfl
theorem wszTree.p6 (y0 : Int) :
    wszTree.P6 y0 =
    bif decide (y0 < 0) then some { cells := [TC.v (Value.int IntKind.i64 (-1))], objs := [] } else some { cells := [TC.v (Value.int IntKind.i64 y0)], objs := [] } := by
  delta wszTree.P6 XX
  generalize lpL (Y.ctx (lim' Y)) 20 = lp
  generalize lim' Y = call
  kernel_rfl


noncomputable def sNodesStart.L6 (y0 : List (List D)) (y1 : Int) (y2 : Int) (y3 : List (List D)) (y4 : Int) (y5 : List (List D)) : Option (Ex × St) := lpL XX 21 (bodyAt 6 sNodesStart.c)
  (mk 0 37 [(2, AV.one (A1.p true 2 [] 0)), (3, AV.one (A1.p true 3 [] 0)), (4, AV.one (A1.s y0)), (5, AV.one (A1.v (Value.int IntKind.i64 y1)))]
    [(2, some { kind := Kind.box, row := [D.v (Value.int IntKind.i64 y2), D.s y3], fl := [Own.deep, Own.deep] }),
      (3, some { kind := Kind.box, row := [D.v (Value.int IntKind.i64 y4), D.s y5], fl := [Own.deep, Own.deep] })])
noncomputable def sNodesStart.A6 : Ex × St → Option Res := fun r => evA XX 21 (lpL XX 21) 6 sNodesStart.c r.fst r.snd (outE XX 21 Try.f21)
noncomputable def sNodesStart.L6b (y0 : List (List D)) (y1 : Int) (y2 : Int) (y3 : List (List D)) (y4 : Int) (y5 : List (List D)) : Option (Ex × St) := lpL XX 21 (bodyAt 6 sNodesStart.c)
  (mk 0 37 [(2, AV.one (A1.p true 2 [] 0)), (3, AV.one (A1.p true 3 [] 0)), (4, AV.one (A1.s y0)), (5, AV.one (A1.v (Value.int IntKind.i64 y1)))]
    [(2, some { kind := Kind.box, row := [D.v (Value.int IntKind.i64 y2), D.s y3], fl := [Own.deep, Own.deep] }),
      (3, some { kind := Kind.box, row := [D.v (Value.int IntKind.i64 y4), D.s y5], fl := [Own.deep, Own.top] })])
noncomputable def sNodesStart.x6 (y0 : Int) (y1 : List (List D)) (y2 : Int) (y3 : List (List D)) : Ex × St := (Ex.exit 0,
  mk 0 37 [(2, AV.one (A1.p true 2 [] 0)), (3, AV.one (A1.p true 3 [] 0))]
    [(2, some { kind := Kind.box, row := [D.v (Value.int IntKind.i64 y0), D.s y1], fl := [Own.deep, Own.deep] }),
      (3, some { kind := Kind.box, row := [D.v (Value.int IntKind.i64 y2), D.s y3], fl := [Own.deep, Own.deep] })])
noncomputable def sNodesStart.x6b (y0 : Int) (y1 : List (List D)) (y2 : Int) (y3 : List (List D)) : Ex × St := (Ex.exit 0,
  mk 0 37 [(2, AV.one (A1.p true 2 [] 0)), (3, AV.one (A1.p true 3 [] 0))]
    [(2, some { kind := Kind.box, row := [D.v (Value.int IntKind.i64 y0), D.s y1], fl := [Own.deep, Own.deep] }),
      (3, some { kind := Kind.box, row := [D.v (Value.int IntKind.i64 y2), D.s y3], fl := [Own.deep, Own.top] })])
theorem sNodesStart.e (a0 : Bool) (a1 : Int) (a2 : ByteArray) (a3 : List (List D)) (a4 : List (List D)) :
    sNodesStart [AV.g [A1.v (Value.bool a0), A1.v (Value.int IntKind.i64 a1), A1.v (Value.string a2), A1.s a3, A1.s a4]] [] =
    (sTreeOk [AV.g [A1.v (Value.bool a0), A1.v (Value.int IntKind.i64 a1), A1.v (Value.string a2), A1.s a3, A1.s a4]] []).bind fun val =>
  bif fitsCells [R1.bool] val.1 && true then
    bif !(val.1.getD 0 TC.d).bool then some { cells := [TC.v (Value.int IntKind.i64 0), TC.s []], objs := [] }
    else
      (sl33Paths [AV.one (A1.s []), AV.g [A1.v (Value.bool a0), A1.v (Value.int IntKind.i64 a1), A1.v (Value.string a2), A1.s a3, A1.s a4]] []).bind fun val =>
        bif fitsCells [R1.sh] val.1 && true then (sNodesStart.L6 (val.1.getD 0 TC.d).es 0 0 [] 1 []).bind sNodesStart.A6 else none
  else none := by
  refine (sNodesStart.run _ _ (by kernel_rfl)).trans ?_
  delta sNodesStart sTreeOk sl33Paths sNodesStart.L6 sNodesStart.A6 XX
  generalize lpL (Y.ctx (lim' Y)) 21 = lp
  generalize lim' Y = call
  kernel_rfl
theorem sNodesStart.s6 (y0 : List (List D)) (y1 : Int) (y2 : Int) (y3 : List (List D)) (y4 : Int) (y5 : List (List D)) :
    sNodesStart.L6 y0 y1 y2 y3 y4 y5 =
    bif decide (y1 < (↑y0.length : Int)) then
  bif decide (0 ≤ y1) && decide (y1 < (↑y0.length : Int)) && decide ((y0.getD y1.toNat []).length = 1) then
    bif fitsRow [CK.sl] (y0.getD y1.toNat []) 0 && decide (1 ≤ (y0.getD y1.toNat []).length) then
      bif rowsLen 2 y5 && true && true && true && decide ((y5.length + 1) * 33 ≤ 70368744177664) then
        sNodesStart.L6b y0 (IntKind.i64.wrap (y1 + 1)) y2 y3 (IntKind.i64.wrap (y4 + 1)) (y5 ++ [[D.v (Value.int IntKind.i64 y4), D.s ((y0.getD y1.toNat []).getD 0 D.h).es]])
      else none
    else none
  else none
else some (sNodesStart.x6 y2 y3 y4 y5) := by
  refine (lpL_eq (Y := Y) (c := lim' Y) (fn := 21) (rid := 6) (b := bodyAt 6 sNodesStart.c) (by kernel_rfl) _).trans ?_
  delta sNodesStart.L6 sNodesStart.L6b sNodesStart.x6 XX
  generalize lpL (Y.ctx (lim' Y)) 21 = lp
  generalize lim' Y = call
  kernel_rfl
theorem sNodesStart.s6b (y0 : List (List D)) (y1 : Int) (y2 : Int) (y3 : List (List D)) (y4 : Int) (y5 : List (List D)) :
    sNodesStart.L6b y0 y1 y2 y3 y4 y5 =
    bif decide (y1 < (↑y0.length : Int)) then
  bif decide (0 ≤ y1) && decide (y1 < (↑y0.length : Int)) && decide ((y0.getD y1.toNat []).length = 1) then
    bif fitsRow [CK.sl] (y0.getD y1.toNat []) 0 && decide (1 ≤ (y0.getD y1.toNat []).length) then
      bif rowsLen 2 y5 && true && true && true && decide ((y5.length + 1) * 33 ≤ 70368744177664) then
        sNodesStart.L6b y0 (IntKind.i64.wrap (y1 + 1)) y2 y3 (IntKind.i64.wrap (y4 + 1)) (y5 ++ [[D.v (Value.int IntKind.i64 y4), D.s ((y0.getD y1.toNat []).getD 0 D.h).es]])
      else none
    else none
  else none
else some (sNodesStart.x6b y2 y3 y4 y5) := by
  refine (lpL_eq (Y := Y) (c := lim' Y) (fn := 21) (rid := 6) (b := bodyAt 6 sNodesStart.c) (by kernel_rfl) _).trans ?_
  delta sNodesStart.L6b sNodesStart.x6b XX
  generalize lpL (Y.ctx (lim' Y)) 21 = lp
  generalize lim' Y = call
  kernel_rfl
theorem sNodesStart.a6x6 (y0 : Int) (y1 : List (List D)) (y2 : Int) (y3 : List (List D)) :
    sNodesStart.A6 (sNodesStart.x6 y0 y1 y2 y3) =
    some { cells := [TC.v (Value.int IntKind.i64 y2), TC.s y3], objs := [] } := by
  delta sNodesStart.A6 sNodesStart.x6 XX
  generalize lpL (Y.ctx (lim' Y)) 21 = lp
  generalize lim' Y = call
  kernel_rfl
theorem sNodesStart.a6x6b (y0 : Int) (y1 : List (List D)) (y2 : Int) (y3 : List (List D)) :
    sNodesStart.A6 (sNodesStart.x6b y0 y1 y2 y3) =
    some { cells := [TC.v (Value.int IntKind.i64 y2), TC.s y3], objs := [] } := by
  delta sNodesStart.A6 sNodesStart.x6b XX
  generalize lpL (Y.ctx (lim' Y)) 21 = lp
  generalize lim' Y = call
  kernel_rfl


theorem wtoTree.e (a0 : Bool) (a1 : Int) (a2 : ByteArray) (a3 : List (List D)) (a4 : List (List D)) :
    wtoTree [AV.g [A1.v (Value.bool a0), A1.v (Value.int IntKind.i64 a1), A1.v (Value.string a2), A1.s a3, A1.s a4]] [] =
    (wtoStringS [AV.one (A1.s a3)] []).bind fun val =>
  bif fitsCells [R1.own Own.deep] val.1 && true then
    (wtoTreeS [AV.one (A1.s a4)] []).bind fun val_1 =>
      bif fitsCells [R1.own Own.deep] val_1.1 && true then
        some { cells := [TC.v (Value.bool a0), TC.v (Value.int IntKind.i64 a1), TC.v (Value.string a2), TC.o Own.deep (val.1.getD 0 TC.d).es, TC.o Own.deep (val_1.1.getD 0 TC.d).es], objs := [] }
      else none
  else none := by
  refine (wtoTree.run _ _ (by kernel_rfl)).trans ?_
  delta wtoTree wtoStringS wtoTreeS XX
  generalize lpL (Y.ctx (lim' Y)) 22 = lp
  generalize lim' Y = call
  kernel_rfl


noncomputable def iNodesStart.L5 (y0 : Int) (y1 : Int) (y2 : Int) (y3 : List (List D)) (y4 : Int) (y5 : List (List D)) (y6 : List (List D)) : Option (Ex × St) := lpL XX 23 (bodyAt 5 iNodesStart.c)
  (mk 0 34 [(2, AV.one (A1.p true 2 [] 0)), (3, AV.one (A1.p true 3 [] 0)), (13, AV.one (A1.r 13 [] 0)), (14, AV.one (A1.v (Value.int IntKind.i64 y0))), (15, AV.one (A1.v (Value.int IntKind.i64 y1)))]
    [(2, some { kind := Kind.box, row := [D.v (Value.int IntKind.i64 y2), D.s y3], fl := [Own.deep, Own.deep] }),
      (3, some { kind := Kind.box, row := [D.v (Value.int IntKind.i64 y4), D.s y5], fl := [Own.deep, Own.deep] }), (13, some { kind := Kind.virt, row := [D.s y6], fl := [Own.deep] })])
noncomputable def iNodesStart.A5 : Ex × St → Option Res := fun r => evA XX 23 (lpL XX 23) 5 iNodesStart.c r.fst r.snd (outE XX 23 Try.f23)
noncomputable def iNodesStart.x5 (y0 : Int) (y1 : List (List D)) (y2 : Int) (y3 : List (List D)) : Ex × St := (Ex.exit 0,
  mk 0 34 [(2, AV.one (A1.p true 2 [] 0)), (3, AV.one (A1.p true 3 [] 0))]
    [(2, some { kind := Kind.box, row := [D.v (Value.int IntKind.i64 y0), D.s y1], fl := [Own.deep, Own.deep] }),
      (3, some { kind := Kind.box, row := [D.v (Value.int IntKind.i64 y2), D.s y3], fl := [Own.deep, Own.deep] })])
theorem iNodesStart.e (a0 : Bool) (a1 : Int) (a2 : ByteArray) (a3 : List (List D)) (a4 : List (List D)) :
    iNodesStart [AV.g [A1.v (Value.bool a0), A1.v (Value.int IntKind.i64 a1), A1.v (Value.string a2), A1.s a3, A1.s a4]] [] =
    (iTreeOk [AV.g [A1.v (Value.bool a0), A1.v (Value.int IntKind.i64 a1), A1.v (Value.string a2), A1.s a3, A1.s a4]] []).bind fun val =>
  bif fitsCells [R1.bool] val.1 && true then
    bif !(val.1.getD 0 TC.d).bool then some { cells := [TC.v (Value.int IntKind.i64 0), TC.o Own.deep []], objs := [] }
    else
      (ipathsOf [AV.g [A1.v (Value.bool a0), A1.v (Value.int IntKind.i64 a1), A1.v (Value.string a2), A1.s a3, A1.s a4]] []).bind fun val =>
        bif fitsCells [R1.own Own.deep] val.1 && true then (iNodesStart.L5 (↑(val.1.getD 0 TC.d).es.length : Int) 0 0 [] 1 [] (val.1.getD 0 TC.d).es).bind iNodesStart.A5 else none
  else none := by
  refine (iNodesStart.run _ _ (by kernel_rfl)).trans ?_
  delta iNodesStart iTreeOk ipathsOf iNodesStart.L5 iNodesStart.A5 XX
  generalize lpL (Y.ctx (lim' Y)) 23 = lp
  generalize lim' Y = call
  kernel_rfl
theorem iNodesStart.s5 (y0 : Int) (y1 : Int) (y2 : Int) (y3 : List (List D)) (y4 : Int) (y5 : List (List D)) (y6 : List (List D)) :
    iNodesStart.L5 y0 y1 y2 y3 y4 y5 y6 =
    bif decide (y1 < y0) then
  bif decide (0 ≤ y1) && decide (y1 < (↑y6.length : Int)) && decide ((y6.getD y1.toNat []).length = 1) then
    bif fitsRow [CK.sl] (y6.getD y1.toNat []) 0 && decide (1 ≤ (y6.getD y1.toNat []).length) then
      bif rowsLen 2 y5 && true && true && true && decide ((y5.length + 1) * 33 ≤ 70368744177664) then
        iNodesStart.L5 y0 (IntKind.i64.wrap (y1 + 1)) y2 y3 (IntKind.i64.wrap (y4 + 1)) (y5 ++ [[D.v (Value.int IntKind.i64 y4), D.s ((y6.getD y1.toNat []).getD 0 D.h).es]])
          (y6.set y1.toNat ((y6.getD y1.toNat []).set 0 D.h))
      else none
    else none
  else none
else some (iNodesStart.x5 y2 y3 y4 y5) := by
  refine (lpL_eq (Y := Y) (c := lim' Y) (fn := 23) (rid := 5) (b := bodyAt 5 iNodesStart.c) (by kernel_rfl) _).trans ?_
  delta iNodesStart.L5 iNodesStart.x5 XX
  generalize lpL (Y.ctx (lim' Y)) 23 = lp
  generalize lim' Y = call
  kernel_rfl
theorem iNodesStart.a5x5 (y0 : Int) (y1 : List (List D)) (y2 : Int) (y3 : List (List D)) :
    iNodesStart.A5 (iNodesStart.x5 y0 y1 y2 y3) =
    some { cells := [TC.v (Value.int IntKind.i64 y2), TC.o Own.deep y3], objs := [] } := by
  delta iNodesStart.A5 iNodesStart.x5 XX
  generalize lpL (Y.ctx (lim' Y)) 23 = lp
  generalize lim' Y = call
  kernel_rfl


noncomputable def weqTree.P3 (y0 : Bool) (y1 : Int) (y2 : ByteArray) (y3 : List (List D)) (y4 : List (List D)) (y5 : Bool) (y6 : Int) (y7 : ByteArray) (y8 : List (List D)) (y9 : List (List D)) : Option Res := evK XX 24 (lpL XX 24) (dropC 3 weqTree.c)
  (mk 0 32 [(2, AV.one (A1.p true 2 [] 0)), (3, AV.one (A1.p true 3 [] 0))]
    [(2, some { kind := Kind.box, row := [D.v (Value.bool y0), D.v (Value.int IntKind.i64 y1), D.v (Value.string y2), D.s y3, D.s y4], fl := [Own.deep, Own.deep, Own.deep, Own.sh, Own.sh] }),
      (3, some { kind := Kind.box, row := [D.v (Value.bool y5), D.v (Value.int IntKind.i64 y6), D.v (Value.string y7), D.s y8, D.s y9], fl := [Own.deep, Own.deep, Own.deep, Own.sh, Own.sh] })])
  (outE XX 24 Try.f24)
noncomputable def weqTree.P5 (y0 : Bool) (y1 : Int) (y2 : ByteArray) (y3 : List (List D)) (y4 : List (List D)) (y5 : Bool) (y6 : Int) (y7 : ByteArray) (y8 : List (List D)) (y9 : List (List D)) : Option Res := evK XX 24 (lpL XX 24) (dropC 5 weqTree.c)
  (mk 0 32 [(2, AV.one (A1.p true 2 [] 0)), (3, AV.one (A1.p true 3 [] 0))]
    [(2, some { kind := Kind.box, row := [D.v (Value.bool y0), D.v (Value.int IntKind.i64 y1), D.v (Value.string y2), D.s y3, D.s y4], fl := [Own.deep, Own.deep, Own.deep, Own.sh, Own.sh] }),
      (3, some { kind := Kind.box, row := [D.v (Value.bool y5), D.v (Value.int IntKind.i64 y6), D.v (Value.string y7), D.s y8, D.s y9], fl := [Own.deep, Own.deep, Own.deep, Own.sh, Own.sh] })])
  (outE XX 24 Try.f24)
theorem weqTree.e (a0 : Bool) (a1 : Int) (a2 : ByteArray) (a3 : List (List D)) (a4 : List (List D)) (a5 : Bool) (a6 : Int) (a7 : ByteArray) (a8 : List (List D)) (a9 : List (List D)) :
    weqTree
  [AV.g [A1.v (Value.bool a0), A1.v (Value.int IntKind.i64 a1), A1.v (Value.string a2), A1.s a3, A1.s a4],
    AV.g [A1.v (Value.bool a5), A1.v (Value.int IntKind.i64 a6), A1.v (Value.string a7), A1.s a8, A1.s a9]]
  [] =
    bif !a0 == a5 then some { cells := [TC.v (Value.bool false)], objs := [] } else bif a1 != a6 then some { cells := [TC.v (Value.bool false)], objs := [] } else weqTree.P3 a0 a1 a2 a3 a4 a5 a6 a7 a8 a9 := by
  refine (weqTree.run _ _ (by kernel_rfl)).trans ?_
  delta weqTree weqTree.P3 XX
  refine cut_use0 2 3 rfl (weqTree.c) (by kernel_rfl) fun K e1 => ?_
  try simp only [← e1]
  clear e1
  generalize lpL (Y.ctx (lim' Y)) 24 = lp
  generalize lim' Y = call
  kernel_rfl
theorem weqTree.p3 (y0 : Bool) (y1 : Int) (y2 : ByteArray) (y3 : List (List D)) (y4 : List (List D)) (y5 : Bool) (y6 : Int) (y7 : ByteArray) (y8 : List (List D)) (y9 : List (List D)) :
    weqTree.P3 y0 y1 y2 y3 y4 y5 y6 y7 y8 y9 =
    bif !y2.toList == y7.toList then some { cells := [TC.v (Value.bool false)], objs := [] }
else
  (weqStringS [AV.one (A1.s y3), AV.one (A1.s y8)] []).bind fun val =>
    bif fitsCells [R1.bool] val.1 && true then bif !(val.1.getD 0 TC.d).bool then some { cells := [TC.v (Value.bool false)], objs := [] } else weqTree.P5 y0 y1 y2 y3 y4 y5 y6 y7 y8 y9 else none := by
  delta weqTree.P3 weqStringS weqTree.P5 XX
  refine cut_use 3 1 5 rfl (weqTree.c) (by kernel_rfl) fun K e1 => ?_
  try simp only [← e1]
  clear e1
  generalize lpL (Y.ctx (lim' Y)) 24 = lp
  generalize lim' Y = call
  kernel_rfl
theorem weqTree.p5 (y0 : Bool) (y1 : Int) (y2 : ByteArray) (y3 : List (List D)) (y4 : List (List D)) (y5 : Bool) (y6 : Int) (y7 : ByteArray) (y8 : List (List D)) (y9 : List (List D)) :
    weqTree.P5 y0 y1 y2 y3 y4 y5 y6 y7 y8 y9 =
    (weqTreeS [AV.one (A1.s y4), AV.one (A1.s y9)] []).bind fun val =>
  bif fitsCells [R1.bool] val.1 && true then bif !(val.1.getD 0 TC.d).bool then some { cells := [TC.v (Value.bool false)], objs := [] } else some { cells := [TC.v (Value.bool true)], objs := [] }
  else none := by
  delta weqTree.P5 weqTreeS XX
  generalize lpL (Y.ctx (lim' Y)) 24 = lp
  generalize lim' Y = call
  kernel_rfl


theorem wmarkTree.e (a0 : Bool) (a1 : Int) (a2 : ByteArray) (a3 : List (List D)) (a4 : List (List D)) (a5 : Int) :
    wmarkTree [AV.g [A1.v (Value.bool a0), A1.v (Value.int IntKind.i64 a1), A1.v (Value.string a2), A1.r 0 [] 0, A1.r 0 [] 1], AV.one (A1.v (Value.int IntKind.i64 a5))]
  [{ kind := Kind.virt, row := [D.s a3, D.s a4], fl := [Own.deep, Own.deep] }] =
    (wmarkStringS [AV.one (A1.r 0 [] 0), AV.one (A1.v (Value.int IntKind.i64 a5))] [{ kind := Kind.virt, row := [D.s a3], fl := [Own.deep] }]).bind fun val =>
  bif fitsCells [R1.int IntKind.i64] val.1 && fitsCos [{ ob := { kind := Kind.virt, row := [D.s a3], fl := [Own.deep] }, src := Src.sl 0 [] 0 }] val.2 then
    (wmarkTreeS [AV.one (A1.r 0 [] 0), AV.one (A1.v (Value.int IntKind.i64 (val.1.getD 0 TC.d).int))] [{ kind := Kind.virt, row := [D.s a4], fl := [Own.deep] }]).bind fun val_1 =>
      bif fitsCells [R1.int IntKind.i64] val_1.1 && fitsCos [{ ob := { kind := Kind.virt, row := [D.s a4], fl := [Own.deep] }, src := Src.sl 0 [] 1 }] val_1.2 then
        some
          { cells := [TC.v (Value.int IntKind.i64 (val_1.1.getD 0 TC.d).int)],
            objs :=
              [{ kind := Kind.virt,
                  row := [D.s ((val.2.getD 0 { kind := Kind.ro, row := [], fl := [] }).2.getD 0 D.h).es, D.s ((val_1.2.getD 0 { kind := Kind.ro, row := [], fl := [] }).2.getD 0 D.h).es],
                  fl := [Own.deep, Own.deep] }] }
      else none
  else none := by
  refine (wmarkTree.run _ _ (by kernel_rfl)).trans ?_
  delta wmarkTree wmarkStringS wmarkTreeS XX
  generalize lpL (Y.ctx (lim' Y)) 25 = lp
  generalize lim' Y = call
  kernel_rfl


theorem wheldNodes.e (a0 : Int) (a1 : List (List D)) (a2 : Int) :
    wheldNodes [AV.g [A1.v (Value.int IntKind.i64 a0), A1.s a1], AV.one (A1.v (Value.int IntKind.i64 a2))] [] =
    (wheldNodeOfS [AV.one (A1.s a1), AV.one (A1.v (Value.int IntKind.i64 a2))] []).bind fun val =>
  bif fitsCells [R1.int IntKind.i64] val.1 && true then
    bif decide ((val.1.getD 0 TC.d).int < 0) then some { cells := [TC.v (Value.int IntKind.i64 (-1))], objs := [] }
    else some { cells := [TC.v (Value.int IntKind.i64 (val.1.getD 0 TC.d).int)], objs := [] }
  else none := by
  refine (wheldNodes.run _ _ (by kernel_rfl)).trans ?_
  delta wheldNodes wheldNodeOfS XX
  generalize lpL (Y.ctx (lim' Y)) 26 = lp
  generalize lim' Y = call
  kernel_rfl


noncomputable def sNodesOk.L5 (y0 : List (List D)) (y1 : Int) (y2 : Int) (y3 : List (List D)) : Option (Ex × St) := lpL XX 27 (bodyAt 5 sNodesOk.c)
  (mk 0 49 [(2, AV.one (A1.p true 2 [] 0)), (5, AV.one (A1.s y0)), (6, AV.one (A1.v (Value.int IntKind.i64 y1)))]
    [(2, some { kind := Kind.box, row := [D.v (Value.int IntKind.i64 y2), D.s y3], fl := [Own.deep, Own.sh] })])
noncomputable def sNodesOk.A5 : Ex × St → Option Res := fun r => evA XX 27 (lpL XX 27) 5 sNodesOk.c r.fst r.snd (outE XX 27 Try.f27)
noncomputable def sNodesOk.q5 (y0 : Bool) (y1 : List (List D)) (y2 : Int) (y3 : List (List D)) : Ex × St := (Ex.ret,
  mk 0 49 [(2, AV.one (A1.p true 2 [] 0)), (4, AV.one (A1.v (Value.bool y0))), (5, AV.one (A1.s y1))]
    [(2, some { kind := Kind.box, row := [D.v (Value.int IntKind.i64 y2), D.s y3], fl := [Own.deep, Own.sh] })])
noncomputable def sNodesOk.x5 (y0 : List (List D)) (y1 : Int) (y2 : List (List D)) : Ex × St := (Ex.exit 0, mk 0 49 [(2, AV.one (A1.p true 2 [] 0)), (5, AV.one (A1.s y0))] [(2, some { kind := Kind.box, row := [D.v (Value.int IntKind.i64 y1), D.s y2], fl := [Own.deep, Own.sh] })])
theorem sNodesOk.e (a0 : Int) (a1 : List (List D)) (a2 : Bool) (a3 : Int) (a4 : ByteArray) (a5 : List (List D)) (a6 : List (List D)) :
    sNodesOk [AV.g [A1.v (Value.int IntKind.i64 a0), A1.s a1], AV.g [A1.v (Value.bool a2), A1.v (Value.int IntKind.i64 a3), A1.v (Value.string a4), A1.s a5, A1.s a6]] [] =
    (sTreeOk [AV.g [A1.v (Value.bool a2), A1.v (Value.int IntKind.i64 a3), A1.v (Value.string a4), A1.s a5, A1.s a6]] []).bind fun val =>
  bif fitsCells [R1.bool] val.1 && true then
    bif !(val.1.getD 0 TC.d).bool then some { cells := [TC.v (Value.bool false)], objs := [] }
    else
      (sl33Ok [AV.g [A1.v (Value.int IntKind.i64 a0), A1.s a1]] []).bind fun val =>
        bif fitsCells [R1.bool] val.1 && true then
          bif !(val.1.getD 0 TC.d).bool then some { cells := [TC.v (Value.bool false)], objs := [] }
          else
            (sl33Paths [AV.one (A1.s []), AV.g [A1.v (Value.bool a2), A1.v (Value.int IntKind.i64 a3), A1.v (Value.string a4), A1.s a5, A1.s a6]] []).bind fun val =>
              bif fitsCells [R1.sh] val.1 && true then (sNodesOk.L5 (val.1.getD 0 TC.d).es 0 a0 a1).bind sNodesOk.A5 else none
        else none
  else none := by
  refine (sNodesOk.run _ _ (by kernel_rfl)).trans ?_
  delta sNodesOk sTreeOk sl33Ok sl33Paths sNodesOk.L5 sNodesOk.A5 XX
  generalize lpL (Y.ctx (lim' Y)) 27 = lp
  generalize lim' Y = call
  kernel_rfl
theorem sNodesOk.s5 (y0 : List (List D)) (y1 : Int) (y2 : Int) (y3 : List (List D)) :
    sNodesOk.L5 y0 y1 y2 y3 =
    bif decide (y1 < (↑y0.length : Int)) then
  bif decide (y1 < (↑y3.length : Int)) then
    bif decide (0 ≤ y1) && decide (y1 < (↑y0.length : Int)) && decide ((y0.getD y1.toNat []).length = 1) then
      bif fitsRow [CK.sl] (y0.getD y1.toNat []) 0 && decide (1 ≤ (y0.getD y1.toNat []).length) then
        bif decide (0 ≤ y1) && decide (y1 < (↑y3.length : Int)) && decide ((y3.getD y1.toNat []).length = 2) then
          bif fitsRow [CK.sl] (y3.getD y1.toNat []) 1 && decide (2 ≤ (y3.getD y1.toNat []).length) then
            (sl11Same [AV.one (A1.s ((y0.getD y1.toNat []).getD 0 D.h).es), AV.one (A1.s ((y3.getD y1.toNat []).getD 1 D.h).es)] []).bind fun val =>
              bif fitsCells [R1.bool] val.1 && true then bif !(val.1.getD 0 TC.d).bool then some (sNodesOk.q5 false y0 y2 y3) else sNodesOk.L5 y0 (IntKind.i64.wrap (y1 + 1)) y2 y3 else none
          else none
        else none
      else none
    else none
  else some (sNodesOk.x5 y0 y2 y3)
else some (sNodesOk.x5 y0 y2 y3) := by
  refine (lpL_eq (Y := Y) (c := lim' Y) (fn := 27) (rid := 5) (b := bodyAt 5 sNodesOk.c) (by kernel_rfl) _).trans ?_
  delta sNodesOk.L5 sl11Same sNodesOk.q5 sNodesOk.x5 XX
  generalize lpL (Y.ctx (lim' Y)) 27 = lp
  generalize lim' Y = call
  kernel_rfl
theorem sNodesOk.a5q5 (y0 : Bool) (y1 : List (List D)) (y2 : Int) (y3 : List (List D)) :
    sNodesOk.A5 (sNodesOk.q5 y0 y1 y2 y3) =
    some { cells := [TC.v (Value.bool y0)], objs := [] } := by
  delta sNodesOk.A5 sNodesOk.q5 XX
  generalize lpL (Y.ctx (lim' Y)) 27 = lp
  generalize lim' Y = call
  kernel_rfl
theorem sNodesOk.a5x5 (y0 : List (List D)) (y1 : Int) (y2 : List (List D)) :
    sNodesOk.A5 (sNodesOk.x5 y0 y1 y2) =
    some { cells := [TC.v (Value.bool ((↑y0.length : Int) == (↑y2.length : Int)))], objs := [] } := by
  delta sNodesOk.A5 sNodesOk.x5 XX
  generalize lpL (Y.ctx (lim' Y)) 27 = lp
  generalize lim' Y = call
  kernel_rfl


theorem iNodesOk.e (a0 : Int) (a1 : List (List D)) (a2 : Bool) (a3 : Int) (a4 : ByteArray) (a5 : List (List D)) (a6 : List (List D)) :
    iNodesOk [AV.g [A1.v (Value.int IntKind.i64 a0), A1.s a1], AV.g [A1.v (Value.bool a2), A1.v (Value.int IntKind.i64 a3), A1.v (Value.string a4), A1.s a5, A1.s a6]] [] =
    (inodesWell [AV.g [A1.v (Value.int IntKind.i64 a0), A1.s a1]] []).bind fun val =>
  bif fitsCells [R1.bool] val.1 && true then
    bif !(val.1.getD 0 TC.d).bool then some { cells := [TC.v (Value.bool false)], objs := [] }
    else
      (iTreeOk [AV.g [A1.v (Value.bool a2), A1.v (Value.int IntKind.i64 a3), A1.v (Value.string a4), A1.s a5, A1.s a6]] []).bind fun val =>
        bif fitsCells [R1.bool] val.1 && true then
          bif !(val.1.getD 0 TC.d).bool then some { cells := [TC.v (Value.bool false)], objs := [] }
          else
            (ipathsOf [AV.g [A1.v (Value.bool a2), A1.v (Value.int IntKind.i64 a3), A1.v (Value.string a4), A1.s a5, A1.s a6]] []).bind fun val =>
              bif fitsCells [R1.own Own.deep] val.1 && true then
                (slices_EqualFunc_SiNodeOf_SSstring_iNodeOf_Sstring [AV.one (A1.s a1), AV.one (A1.s (val.1.getD 0 TC.d).es), AV.f iNodesOk_1.id []] []).bind fun val =>
                  bif fitsCells [R1.bool] val.1 && true then some { cells := [TC.v (Value.bool (val.1.getD 0 TC.d).bool)], objs := [] } else none
              else none
        else none
  else none := by
  refine (iNodesOk.run _ _ (by kernel_rfl)).trans ?_
  delta iNodesOk inodesWell iTreeOk ipathsOf slices_EqualFunc_SiNodeOf_SSstring_iNodeOf_Sstring iNodesOk_1.id XX
  generalize lpL (Y.ctx (lim' Y)) 28 = lp
  generalize lim' Y = call
  kernel_rfl


noncomputable def wszNodeOfS.L5 (y0 : List (List D)) (y1 : Int) (y2 : Int) : Option (Ex × St) := lpL XX 29 (bodyAt 5 wszNodeOfS.c) (mk 0 27 [(0, AV.one (A1.s y0)), (1, AV.one (A1.v (Value.int IntKind.i64 y1))), (5, AV.one (A1.v (Value.int IntKind.i64 y2)))] [])
noncomputable def wszNodeOfS.A5 : Ex × St → Option Res := fun r => evA XX 29 (lpL XX 29) 5 wszNodeOfS.c r.fst r.snd (outE XX 29 Try.f29)
noncomputable def wszNodeOfS.q5 (y0 : Int) (y1 : Int) : Ex × St := (Ex.ret, mk 0 27 [(1, AV.one (A1.v (Value.int IntKind.i64 y0))), (4, AV.one (A1.v (Value.int IntKind.i64 y1)))] [])
noncomputable def wszNodeOfS.x5 (y0 : Int) : Ex × St := (Ex.exit 0, mk 0 27 [(1, AV.one (A1.v (Value.int IntKind.i64 y0)))] [])
theorem wszNodeOfS.e (a0 : List (List D)) (a1 : Int) :
    wszNodeOfS [AV.one (A1.s a0), AV.one (A1.v (Value.int IntKind.i64 a1))] [] =
    bif decide (IntKind.i64.wrap (a1 - (↑a0.length : Int)) < 0) then some { cells := [TC.v (Value.int IntKind.i64 (-1))], objs := [] }
else (wszNodeOfS.L5 a0 (IntKind.i64.wrap (a1 - (↑a0.length : Int))) 0).bind wszNodeOfS.A5 := by
  refine (wszNodeOfS.run _ _ (by kernel_rfl)).trans ?_
  delta wszNodeOfS wszNodeOfS.L5 wszNodeOfS.A5 XX
  generalize lpL (Y.ctx (lim' Y)) 29 = lp
  generalize lim' Y = call
  kernel_rfl
theorem wszNodeOfS.s5 (y0 : List (List D)) (y1 : Int) (y2 : Int) :
    wszNodeOfS.L5 y0 y1 y2 =
    bif decide (y2 < (↑y0.length : Int)) then
  bif decide (0 ≤ y2) && decide (y2 < (↑y0.length : Int)) && decide ((y0.getD y2.toNat []).length = 2) then
    bif fitsRow [CK.int IntKind.i64, CK.sl] (y0.getD y2.toNat []) 0 && decide (2 ≤ (y0.getD y2.toNat []).length) then
      (wszNodeOf [AV.g [A1.v (Value.int IntKind.i64 ((y0.getD y2.toNat []).getD 0 D.h).int), A1.s ((y0.getD y2.toNat []).getD 1 D.h).es], AV.one (A1.v (Value.int IntKind.i64 y1))] []).bind fun val =>
        bif fitsCells [R1.int IntKind.i64] val.1 && true then
          bif decide ((val.1.getD 0 TC.d).int < 0) then some (wszNodeOfS.q5 (val.1.getD 0 TC.d).int (-1)) else wszNodeOfS.L5 y0 (val.1.getD 0 TC.d).int (IntKind.i64.wrap (y2 + 1))
        else none
    else none
  else none
else some (wszNodeOfS.x5 y1) := by
  refine (lpL_eq (Y := Y) (c := lim' Y) (fn := 29) (rid := 5) (b := bodyAt 5 wszNodeOfS.c) (by kernel_rfl) _).trans ?_
  delta wszNodeOfS.L5 wszNodeOf wszNodeOfS.q5 wszNodeOfS.x5 XX
  generalize lpL (Y.ctx (lim' Y)) 29 = lp
  generalize lim' Y = call
  kernel_rfl
theorem wszNodeOfS.a5q5 (y0 : Int) (y1 : Int) :
    wszNodeOfS.A5 (wszNodeOfS.q5 y0 y1) =
    some { cells := [TC.v (Value.int IntKind.i64 y1)], objs := [] } := by
  delta wszNodeOfS.A5 wszNodeOfS.q5 XX
  generalize lpL (Y.ctx (lim' Y)) 29 = lp
  generalize lim' Y = call
  kernel_rfl
theorem wszNodeOfS.a5x5 (y0 : Int) :
    wszNodeOfS.A5 (wszNodeOfS.x5 y0) =
    some { cells := [TC.v (Value.int IntKind.i64 y0)], objs := [] } := by
  delta wszNodeOfS.A5 wszNodeOfS.x5 XX
  generalize lpL (Y.ctx (lim' Y)) 29 = lp
  generalize lim' Y = call
  kernel_rfl


noncomputable def sl33Ok.L4 (y0 : Int) (y1 : Int) (y2 : List (List D)) : Option (Ex × St) := lpL XX 30 (bodyAt 4 sl33Ok.c)
  (mk 0 72 [(1, AV.one (A1.p true 1 [] 0)), (3, AV.one (A1.v (Value.int IntKind.i64 y0)))] [(1, some { kind := Kind.box, row := [D.v (Value.int IntKind.i64 y1), D.s y2], fl := [Own.deep, Own.sh] })])
noncomputable def sl33Ok.A4 : Ex × St → Option Res := fun r => evA XX 30 (lpL XX 30) 4 sl33Ok.c r.fst r.snd (outE XX 30 Try.f30)
noncomputable def sl33Ok.q4 (y0 : Bool) : Ex × St := (Ex.ret, mk 0 72 [(2, AV.one (A1.v (Value.bool y0)))] [])
noncomputable def sl33Ok.L10 (y0 : Int) (y1 : Int) (y2 : Int) (y3 : List (List D)) (y4 : Int) (y5 : List (List D)) : Option (Ex × St) := lpL XX 30 (bodyAt 10 (bodyAt 4 sl33Ok.c))
  (mk 0 72 [(1, AV.one (A1.p true 1 [] 0)), (3, AV.one (A1.v (Value.int IntKind.i64 y0))), (4, AV.one (A1.p true 4 [] 0)), (5, AV.one (A1.v (Value.int IntKind.i64 y1)))]
    [(1, some { kind := Kind.box, row := [D.v (Value.int IntKind.i64 y2), D.s y3], fl := [Own.deep, Own.sh] }),
      (4, some { kind := Kind.box, row := [D.v (Value.int IntKind.i64 y4), D.s y5], fl := [Own.deep, Own.sh] })])
noncomputable def sl33Ok.A10 : Ex × St → Option (Ex × St) := fun r => evA XX 30 (lpL XX 30) 10 (bodyAt 4 sl33Ok.c) r.fst r.snd (backL (lpL XX 30) (bodyAt 4 sl33Ok.c) (XX.live 30 4))
noncomputable def sl33Ok.x4 : Ex × St := (Ex.exit 0, mk 0 72 [] [])
noncomputable def sl33Ok.q10 (y0 : Bool) (y1 : Int) (y2 : Int) (y3 : List (List D)) : Ex × St := (Ex.ret,
  mk 0 72 [(1, AV.one (A1.p true 1 [] 0)), (2, AV.one (A1.v (Value.bool y0))), (3, AV.one (A1.v (Value.int IntKind.i64 y1)))]
    [(1, some { kind := Kind.box, row := [D.v (Value.int IntKind.i64 y2), D.s y3], fl := [Own.deep, Own.sh] })])
noncomputable def sl33Ok.x10 (y0 : Int) (y1 : Int) (y2 : List (List D)) : Ex × St := (Ex.exit 2,
  mk 0 72 [(1, AV.one (A1.p true 1 [] 0)), (3, AV.one (A1.v (Value.int IntKind.i64 y0)))] [(1, some { kind := Kind.box, row := [D.v (Value.int IntKind.i64 y1), D.s y2], fl := [Own.deep, Own.sh] })])
theorem sl33Ok.e (a0 : Int) (a1 : List (List D)) :
    sl33Ok [AV.g [A1.v (Value.int IntKind.i64 a0), A1.s a1]] [] =
    (sl1In [AV.one (A1.v (Value.int IntKind.i64 a0)), AV.one (A1.v (Value.int IntKind.i64 1)), AV.one (A1.v (Value.int IntKind.i64 10000))] []).bind fun val =>
  bif fitsCells [R1.bool] val.1 && true then
    bif !(val.1.getD 0 TC.d).bool then some { cells := [TC.v (Value.bool false)], objs := [] }
    else bif decide ((↑a1.length : Int) > 30) then some { cells := [TC.v (Value.bool false)], objs := [] } else (sl33Ok.L4 0 a0 a1).bind sl33Ok.A4
  else none := by
  refine (sl33Ok.run _ _ (by kernel_rfl)).trans ?_
  delta sl33Ok sl1In sl33Ok.L4 sl33Ok.A4 XX
  generalize lpL (Y.ctx (lim' Y)) 30 = lp
  generalize lim' Y = call
  kernel_rfl
theorem sl33Ok.s4 (y0 : Int) (y1 : Int) (y2 : List (List D)) :
    sl33Ok.L4 y0 y1 y2 =
    bif decide (y0 < (↑y2.length : Int)) then
  bif decide (0 ≤ y0) && decide (y0 < (↑y2.length : Int)) && decide ((y2.getD y0.toNat []).length = 2) then
    bif fitsRow [CK.int IntKind.i64, CK.sl] (y2.getD y0.toNat []) 0 && decide (2 ≤ (y2.getD y0.toNat []).length) then
      (sl1In [AV.one (A1.v (Value.int IntKind.i64 ((y2.getD y0.toNat []).getD 0 D.h).int)), AV.one (A1.v (Value.int IntKind.i64 1)), AV.one (A1.v (Value.int IntKind.i64 (IntKind.i64.wrap (y1 - 1))))]
            []).bind
        fun val =>
        bif fitsCells [R1.bool] val.1 && true then
          bif !(val.1.getD 0 TC.d).bool then some (sl33Ok.q4 false)
          else
            (sl2PathOk [AV.one (A1.s ((y2.getD y0.toNat []).getD 1 D.h).es)] []).bind fun val =>
              bif fitsCells [R1.bool] val.1 && true then
                bif !(val.1.getD 0 TC.d).bool then some (sl33Ok.q4 false)
                else
                  bif decide (y0 > 0) then
                    bif decide (0 ≤ IntKind.i64.wrap (y0 - 1)) && decide (IntKind.i64.wrap (y0 - 1) < (↑y2.length : Int)) && decide ((y2.getD (IntKind.i64.wrap (y0 - 1)).toNat []).length = 2) then
                      bif fitsRow [CK.sl] (y2.getD (IntKind.i64.wrap (y0 - 1)).toNat []) 1 && decide (2 ≤ (y2.getD (IntKind.i64.wrap (y0 - 1)).toNat []).length) then
                        (sl11Less [AV.one (A1.s ((y2.getD (IntKind.i64.wrap (y0 - 1)).toNat []).getD 1 D.h).es), AV.one (A1.s ((y2.getD y0.toNat []).getD 1 D.h).es)] []).bind fun val =>
                          bif fitsCells [R1.bool] val.1 && true then
                            bif !(val.1.getD 0 TC.d).bool then some (sl33Ok.q4 false)
                            else (sl33Ok.L10 y0 0 y1 y2 ((y2.getD y0.toNat []).getD 0 D.h).int ((y2.getD y0.toNat []).getD 1 D.h).es).bind sl33Ok.A10
                          else none
                      else none
                    else none
                  else (sl33Ok.L10 y0 0 y1 y2 ((y2.getD y0.toNat []).getD 0 D.h).int ((y2.getD y0.toNat []).getD 1 D.h).es).bind sl33Ok.A10
              else none
        else none
    else none
  else none
else some sl33Ok.x4 := by
  refine (lpL_eq (Y := Y) (c := lim' Y) (fn := 30) (rid := 4) (b := bodyAt 4 sl33Ok.c) (by kernel_rfl) _).trans ?_
  delta sl33Ok.L4 sl1In sl33Ok.q4 sl2PathOk sl11Less sl33Ok.L10 sl33Ok.A10 sl33Ok.x4 XX
  generalize lpL (Y.ctx (lim' Y)) 30 = lp
  generalize lim' Y = call
  kernel_rfl
theorem sl33Ok.a4q4 (y0 : Bool) :
    sl33Ok.A4 (sl33Ok.q4 y0) =
    some { cells := [TC.v (Value.bool y0)], objs := [] } := by
  delta sl33Ok.A4 sl33Ok.q4 XX
  generalize lpL (Y.ctx (lim' Y)) 30 = lp
  generalize lim' Y = call
  kernel_rfl
theorem sl33Ok.s10 (y0 : Int) (y1 : Int) (y2 : Int) (y3 : List (List D)) (y4 : Int) (y5 : List (List D)) :
    sl33Ok.L10 y0 y1 y2 y3 y4 y5 =
    bif decide (y1 < y0) then
  bif decide (0 ≤ y1) && decide (y1 < (↑y3.length : Int)) && decide ((y3.getD y1.toNat []).length = 2) then
    bif fitsRow [CK.int IntKind.i64] (y3.getD y1.toNat []) 0 && decide (1 ≤ (y3.getD y1.toNat []).length) then
      bif ((y3.getD y1.toNat []).getD 0 D.h).int == y4 then some (sl33Ok.q10 false y0 y2 y3) else sl33Ok.L10 y0 (IntKind.i64.wrap (y1 + 1)) y2 y3 y4 y5
    else none
  else none
else some (sl33Ok.x10 y0 y2 y3) := by
  refine (lpL_eq (Y := Y) (c := lim' Y) (fn := 30) (rid := 10) (b := bodyAt 10 (bodyAt 4 sl33Ok.c)) (by kernel_rfl) _).trans ?_
  delta sl33Ok.L10 sl33Ok.q10 sl33Ok.x10 XX
  generalize lpL (Y.ctx (lim' Y)) 30 = lp
  generalize lim' Y = call
  kernel_rfl
theorem sl33Ok.a4x4 :
    sl33Ok.A4 sl33Ok.x4 =
    some { cells := [TC.v (Value.bool true)], objs := [] } := by
  delta sl33Ok.A4 sl33Ok.x4 XX
  generalize lpL (Y.ctx (lim' Y)) 30 = lp
  generalize lim' Y = call
  kernel_rfl
theorem sl33Ok.a10q10 (y0 : Bool) (y1 : Int) (y2 : Int) (y3 : List (List D)) :
    sl33Ok.A10 (sl33Ok.q10 y0 y1 y2 y3) =
    some (sl33Ok.q4 y0) := by
  delta sl33Ok.A10 sl33Ok.q10 sl33Ok.q4 XX
  generalize lpL (Y.ctx (lim' Y)) 30 = lp
  generalize lim' Y = call
  kernel_rfl
theorem sl33Ok.a10x10 (y0 : Int) (y1 : Int) (y2 : List (List D)) :
    sl33Ok.A10 (sl33Ok.x10 y0 y1 y2) =
    sl33Ok.L4 (IntKind.i64.wrap (y0 + 1)) y1 y2 := by
  delta sl33Ok.A10 sl33Ok.x10 sl33Ok.L4 XX
  generalize lpL (Y.ctx (lim' Y)) 30 = lp
  generalize lim' Y = call
  kernel_rfl


noncomputable def wtoNodeOfS.L3 (y0 : List (List D)) (y1 : Int) (y2 : List (List D)) : Option (Ex × St) := lpL XX 32 (bodyAt 3 wtoNodeOfS.c)
  (mk 0 23 [(0, AV.one (A1.s y0)), (3, AV.one (A1.r 3 [] 0)), (4, AV.one (A1.v (Value.int IntKind.i64 y1)))] [(3, some { kind := Kind.virt, row := [D.s y2], fl := [Own.deep] })])
noncomputable def wtoNodeOfS.A3 : Ex × St → Option Res := fun r => evA XX 32 (lpL XX 32) 3 wtoNodeOfS.c r.fst r.snd (outE XX 32 Try.f32)
noncomputable def wtoNodeOfS.x3 (y0 : List (List D)) : Ex × St := (Ex.exit 0, mk 0 23 [(3, AV.one (A1.r 3 [] 0))] [(3, some { kind := Kind.virt, row := [D.s y0], fl := [Own.deep] })])
theorem wtoNodeOfS.e (a0 : List (List D)) :
    wtoNodeOfS [AV.one (A1.s a0)] [] =
    bif decide ((↑a0.length : Int) * ((↑32 : Int) + 1) ≤ 2 ^ 46) && true && true then
  (wtoNodeOfS.L3 a0 0 (List.replicate (↑a0.length : Int).toNat [D.v (Value.int IntKind.i64 0), D.s []])).bind wtoNodeOfS.A3
else none := by
  refine (wtoNodeOfS.run _ _ (by kernel_rfl)).trans ?_
  delta wtoNodeOfS wtoNodeOfS.L3 wtoNodeOfS.A3 XX
  generalize lpL (Y.ctx (lim' Y)) 32 = lp
  generalize lim' Y = call
  kernel_rfl
theorem wtoNodeOfS.s3 (y0 : List (List D)) (y1 : Int) (y2 : List (List D)) :
    wtoNodeOfS.L3 y0 y1 y2 =
    bif decide (y1 < (↑y0.length : Int)) then
  bif decide (0 ≤ y1) && decide (y1 < (↑y0.length : Int)) && decide ((y0.getD y1.toNat []).length = 2) then
    bif fitsRow [CK.int IntKind.i64, CK.sl] (y0.getD y1.toNat []) 0 && decide (2 ≤ (y0.getD y1.toNat []).length) then
      (wtoNodeOf [AV.g [A1.v (Value.int IntKind.i64 ((y0.getD y1.toNat []).getD 0 D.h).int), A1.s ((y0.getD y1.toNat []).getD 1 D.h).es]] []).bind fun val =>
        bif fitsCells [R1.int IntKind.i64, R1.own Own.deep] val.1 && true then
          bif decide (0 ≤ y1) && decide (y1 < (↑y2.length : Int)) && decide ((y2.getD y1.toNat []).length = 2) then
            bif decide (2 ≤ (y2.getD y1.toNat []).length) && true then
              wtoNodeOfS.L3 y0 (IntKind.i64.wrap (y1 + 1)) (y2.set y1.toNat (D.v (Value.int IntKind.i64 (val.1.getD 0 TC.d).int) :: D.s (val.1.getD 1 TC.d).es :: List.drop 2 (y2.getD y1.toNat [])))
            else none
          else none
        else none
    else none
  else none
else some (wtoNodeOfS.x3 y2) := by
  refine (lpL_eq (Y := Y) (c := lim' Y) (fn := 32) (rid := 3) (b := bodyAt 3 wtoNodeOfS.c) (by kernel_rfl) _).trans ?_
  delta wtoNodeOfS.L3 wtoNodeOf wtoNodeOfS.x3 XX
  generalize lpL (Y.ctx (lim' Y)) 32 = lp
  generalize lim' Y = call
  kernel_rfl
theorem wtoNodeOfS.a3x3 (y0 : List (List D)) :
    wtoNodeOfS.A3 (wtoNodeOfS.x3 y0) =
    some { cells := [TC.o Own.deep y0], objs := [] } := by
  delta wtoNodeOfS.A3 wtoNodeOfS.x3 XX
  generalize lpL (Y.ctx (lim' Y)) 32 = lp
  generalize lim' Y = call
  kernel_rfl


noncomputable def inodesWell.L2 (y0 : List (List D)) (y1 : Int) (y2 : Int) (y3 : Int) (y4 : List (List D)) : Option (Ex × St) := lpL XX 33 (bodyAt 2 inodesWell.c)
  (mk 0 70 [(1, AV.one (A1.p true 1 [] 0)), (8, AV.one (A1.s y0)), (9, AV.one (A1.v (Value.int IntKind.i64 y1))), (10, AV.one (A1.v (Value.int IntKind.i64 y2)))]
    [(1, some { kind := Kind.box, row := [D.v (Value.int IntKind.i64 y3), D.s y4], fl := [Own.deep, Own.sh] })])
noncomputable def inodesWell.A2 : Ex × St → Option Res := fun r => evA XX 33 (lpL XX 33) 2 inodesWell.c r.fst r.snd (outE XX 33 Try.f33)
noncomputable def inodesWell.q2 (y0 : Bool) (y1 : Int) (y2 : List (List D)) : Ex × St := (Ex.ret, mk 0 70 [(1, AV.one (A1.p true 1 [] 0)), (2, AV.one (A1.v (Value.bool y0)))] [(1, some { kind := Kind.box, row := [D.v (Value.int IntKind.i64 y1), D.s y2], fl := [Own.deep, Own.sh] })])
noncomputable def inodesWell.L7 (y0 : List (List D)) (y1 : Int) (y2 : Int) (y3 : List (List D)) (y4 : Int) (y5 : Int) (y6 : Int) (y7 : List (List D)) (y8 : Int) (y9 : List (List D)) : Option (Ex × St) := lpL XX 33 (bodyAt 7 (bodyAt 2 inodesWell.c))
  (mk 0 70
    [(1, AV.one (A1.p true 1 [] 0)), (4, AV.one (A1.p true 4 [] 0)), (8, AV.one (A1.s y0)), (9, AV.one (A1.v (Value.int IntKind.i64 y1))), (10, AV.one (A1.v (Value.int IntKind.i64 y2))),
      (48, AV.one (A1.s y3)), (49, AV.one (A1.v (Value.int IntKind.i64 y4))), (50, AV.one (A1.v (Value.int IntKind.i64 y5)))]
    [(1, some { kind := Kind.box, row := [D.v (Value.int IntKind.i64 y6), D.s y7], fl := [Own.deep, Own.sh] }),
      (4, some { kind := Kind.box, row := [D.v (Value.int IntKind.i64 y8), D.s y9], fl := [Own.deep, Own.sh] })])
noncomputable def inodesWell.A7 : Ex × St → Option (Ex × St) := fun r => evA XX 33 (lpL XX 33) 7 (bodyAt 2 inodesWell.c) r.fst r.snd (backL (lpL XX 33) (bodyAt 2 inodesWell.c) (XX.live 33 2))
noncomputable def inodesWell.x2 (y0 : Int) (y1 : List (List D)) : Ex × St := (Ex.exit 0, mk 0 70 [(1, AV.one (A1.p true 1 [] 0))] [(1, some { kind := Kind.box, row := [D.v (Value.int IntKind.i64 y0), D.s y1], fl := [Own.deep, Own.sh] })])
noncomputable def inodesWell.q7 (y0 : Bool) (y1 : List (List D)) (y2 : Int) (y3 : Int) (y4 : Int) (y5 : List (List D)) : Ex × St := (Ex.ret,
  mk 0 70 [(1, AV.one (A1.p true 1 [] 0)), (2, AV.one (A1.v (Value.bool y0))), (8, AV.one (A1.s y1)), (9, AV.one (A1.v (Value.int IntKind.i64 y2))), (10, AV.one (A1.v (Value.int IntKind.i64 y3)))]
    [(1, some { kind := Kind.box, row := [D.v (Value.int IntKind.i64 y4), D.s y5], fl := [Own.deep, Own.sh] })])
noncomputable def inodesWell.x7 (y0 : List (List D)) (y1 : Int) (y2 : Int) (y3 : Int) (y4 : List (List D)) : Ex × St := (Ex.exit 2,
  mk 0 70 [(1, AV.one (A1.p true 1 [] 0)), (8, AV.one (A1.s y0)), (9, AV.one (A1.v (Value.int IntKind.i64 y1))), (10, AV.one (A1.v (Value.int IntKind.i64 y2)))]
    [(1, some { kind := Kind.box, row := [D.v (Value.int IntKind.i64 y3), D.s y4], fl := [Own.deep, Own.sh] })])
theorem inodesWell.e (a0 : Int) (a1 : List (List D)) :
    inodesWell [AV.g [A1.v (Value.int IntKind.i64 a0), A1.s a1]] [] =
    (inodesWell.L2 a1 (↑a1.length : Int) 0 a0 a1).bind inodesWell.A2 := by
  refine (inodesWell.run _ _ (by kernel_rfl)).trans ?_
  delta inodesWell inodesWell.L2 inodesWell.A2 XX
  generalize lpL (Y.ctx (lim' Y)) 33 = lp
  generalize lim' Y = call
  kernel_rfl
theorem inodesWell.s2 (y0 : List (List D)) (y1 : Int) (y2 : Int) (y3 : Int) (y4 : List (List D)) :
    inodesWell.L2 y0 y1 y2 y3 y4 =
    bif decide (y2 < y1) then
  bif decide (0 ≤ y2) && decide (y2 < (↑y0.length : Int)) && decide ((y0.getD y2.toNat []).length = 2) then
    bif fitsRow [CK.int IntKind.i64, CK.sl] (y0.getD y2.toNat []) 0 && decide (2 ≤ (y0.getD y2.toNat []).length) then
      (inamesOk [AV.one (A1.s ((y0.getD y2.toNat []).getD 1 D.h).es), AV.one (A1.v (Value.int IntKind.i64 1))] []).bind fun val =>
        bif fitsCells [R1.bool] val.1 && true then
          bif !(val.1.getD 0 TC.d).bool then some (inodesWell.q2 false y3 y4)
          else
            bif decide (y2 > 0) then
              bif decide (0 ≤ IntKind.i64.wrap (y2 - 1)) && decide (IntKind.i64.wrap (y2 - 1) < (↑y4.length : Int)) && decide ((y4.getD (IntKind.i64.wrap (y2 - 1)).toNat []).length = 2) then
                bif fitsRow [CK.sl] (y4.getD (IntKind.i64.wrap (y2 - 1)).toNat []) 1 && decide (2 ≤ (y4.getD (IntKind.i64.wrap (y2 - 1)).toNat []).length) then
                  (slices_Compare_Sstring_string [AV.one (A1.s ((y4.getD (IntKind.i64.wrap (y2 - 1)).toNat []).getD 1 D.h).es), AV.one (A1.s ((y0.getD y2.toNat []).getD 1 D.h).es)] []).bind fun val =>
                    bif fitsCells [R1.int IntKind.i64] val.1 && true then
                      bif decide ((val.1.getD 0 TC.d).int ≥ 0) then some (inodesWell.q2 false y3 y4)
                      else
                        (iwithin
                              [AV.one (A1.v (Value.int IntKind.i64 ((y0.getD y2.toNat []).getD 0 D.h).int)), AV.one (A1.v (Value.int IntKind.i64 1)),
                                AV.one (A1.v (Value.int IntKind.i64 (IntKind.i64.wrap (y3 - 1))))]
                              []).bind
                          fun val =>
                          bif fitsCells [R1.bool] val.1 && true then
                            bif !(val.1.getD 0 TC.d).bool then some (inodesWell.q2 false y3 y4)
                            else
                              bif decide (none.getD 0 ≤ y2) && decide (y2 ≤ (↑y4.length : Int)) && true then
                                (inodesWell.L7 y0 y1 y2 (List.drop 0 (List.take y2.toNat y4)) (↑(List.drop 0 (List.take y2.toNat y4)).length : Int) 0 y3 y4 ((y0.getD y2.toNat []).getD 0 D.h).int
                                      ((y0.getD y2.toNat []).getD 1 D.h).es).bind
                                  inodesWell.A7
                              else none
                          else none
                    else none
                else none
              else none
            else
              (iwithin
                    [AV.one (A1.v (Value.int IntKind.i64 ((y0.getD y2.toNat []).getD 0 D.h).int)), AV.one (A1.v (Value.int IntKind.i64 1)),
                      AV.one (A1.v (Value.int IntKind.i64 (IntKind.i64.wrap (y3 - 1))))]
                    []).bind
                fun val =>
                bif fitsCells [R1.bool] val.1 && true then
                  bif !(val.1.getD 0 TC.d).bool then some (inodesWell.q2 false y3 y4)
                  else
                    bif decide (none.getD 0 ≤ y2) && decide (y2 ≤ (↑y4.length : Int)) && true then
                      (inodesWell.L7 y0 y1 y2 (List.drop 0 (List.take y2.toNat y4)) (↑(List.drop 0 (List.take y2.toNat y4)).length : Int) 0 y3 y4 ((y0.getD y2.toNat []).getD 0 D.h).int
                            ((y0.getD y2.toNat []).getD 1 D.h).es).bind
                        inodesWell.A7
                    else none
                else none
        else none
    else none
  else none
else some (inodesWell.x2 y3 y4) := by
  refine (lpL_eq (Y := Y) (c := lim' Y) (fn := 33) (rid := 2) (b := bodyAt 2 inodesWell.c) (by kernel_rfl) _).trans ?_
  delta inodesWell.L2 inamesOk inodesWell.q2 slices_Compare_Sstring_string iwithin inodesWell.L7 inodesWell.A7 inodesWell.x2 XX
  generalize lpL (Y.ctx (lim' Y)) 33 = lp
  generalize lim' Y = call
  kernel_rfl
theorem inodesWell.a2q2 (y0 : Bool) (y1 : Int) (y2 : List (List D)) :
    inodesWell.A2 (inodesWell.q2 y0 y1 y2) =
    some { cells := [TC.v (Value.bool y0)], objs := [] } := by
  delta inodesWell.A2 inodesWell.q2 XX
  generalize lpL (Y.ctx (lim' Y)) 33 = lp
  generalize lim' Y = call
  kernel_rfl
theorem inodesWell.s7 (y0 : List (List D)) (y1 : Int) (y2 : Int) (y3 : List (List D)) (y4 : Int) (y5 : Int) (y6 : Int) (y7 : List (List D)) (y8 : Int) (y9 : List (List D)) :
    inodesWell.L7 y0 y1 y2 y3 y4 y5 y6 y7 y8 y9 =
    bif decide (y5 < y4) then
  bif decide (0 ≤ y5) && decide (y5 < (↑y3.length : Int)) && decide ((y3.getD y5.toNat []).length = 2) then
    bif fitsRow [CK.int IntKind.i64, CK.sl] (y3.getD y5.toNat []) 0 && decide (2 ≤ (y3.getD y5.toNat []).length) then
      bif ((y3.getD y5.toNat []).getD 0 D.h).int == y8 then some (inodesWell.q7 false y0 y1 y2 y6 y7) else inodesWell.L7 y0 y1 y2 y3 y4 (IntKind.i64.wrap (y5 + 1)) y6 y7 y8 y9
    else none
  else none
else some (inodesWell.x7 y0 y1 y2 y6 y7) := by
  refine (lpL_eq (Y := Y) (c := lim' Y) (fn := 33) (rid := 7) (b := bodyAt 7 (bodyAt 2 inodesWell.c)) (by kernel_rfl) _).trans ?_
  delta inodesWell.L7 inodesWell.q7 inodesWell.x7 XX
  generalize lpL (Y.ctx (lim' Y)) 33 = lp
  generalize lim' Y = call
  kernel_rfl
theorem inodesWell.a2x2 (y0 : Int) (y1 : List (List D)) :
    inodesWell.A2 (inodesWell.x2 y0 y1) =
    (iwithin [AV.one (A1.v (Value.int IntKind.i64 y0)), AV.one (A1.v (Value.int IntKind.i64 1)), AV.one (A1.v (Value.int IntKind.i64 10000))] []).bind fun val =>
  bif fitsCells [R1.bool] val.1 && true then
    bif (val.1.getD 0 TC.d).bool then some { cells := [TC.v (Value.bool (decide ((↑y1.length : Int) ≤ 30)))], objs := [] } else some { cells := [TC.v (Value.bool false)], objs := [] }
  else none := by
  delta inodesWell.A2 inodesWell.x2 iwithin XX
  generalize lpL (Y.ctx (lim' Y)) 33 = lp
  generalize lim' Y = call
  kernel_rfl
theorem inodesWell.a7q7 (y0 : Bool) (y1 : List (List D)) (y2 : Int) (y3 : Int) (y4 : Int) (y5 : List (List D)) :
    inodesWell.A7 (inodesWell.q7 y0 y1 y2 y3 y4 y5) =
    some (inodesWell.q2 y0 y4 y5) := by
  delta inodesWell.A7 inodesWell.q7 inodesWell.q2 XX
  generalize lpL (Y.ctx (lim' Y)) 33 = lp
  generalize lim' Y = call
  kernel_rfl
theorem inodesWell.a7x7 (y0 : List (List D)) (y1 : Int) (y2 : Int) (y3 : Int) (y4 : List (List D)) :
    inodesWell.A7 (inodesWell.x7 y0 y1 y2 y3 y4) =
    inodesWell.L2 y0 y1 (IntKind.i64.wrap (y2 + 1)) y3 y4 := by
  delta inodesWell.A7 inodesWell.x7 inodesWell.L2 XX
  generalize lpL (Y.ctx (lim' Y)) 33 = lp
  generalize lim' Y = call
  kernel_rfl


noncomputable def slices_Equal_Sstring_string.L4 (y0 : List (List D)) (y1 : List (List D)) (y2 : Int) (y3 : Int) : Option (Ex × St) := lpL XX 34 (bodyAt 4 slices_Equal_Sstring_string.c)
  (mk 0 26 [(0, AV.one (A1.s y0)), (1, AV.one (A1.s y1)), (12, AV.one (A1.v (Value.int IntKind.i64 y2))), (13, AV.one (A1.v (Value.int IntKind.i64 y3)))] [])
noncomputable def slices_Equal_Sstring_string.A4 : Ex × St → Option Res := fun r => evA XX 34 (lpL XX 34) 4 slices_Equal_Sstring_string.c r.fst r.snd (outE XX 34 Try.f34)
noncomputable def slices_Equal_Sstring_string.q4 (y0 : Bool) : Ex × St := (Ex.ret, mk 0 26 [(4, AV.one (A1.v (Value.bool y0)))] [])
noncomputable def slices_Equal_Sstring_string.x4 : Ex × St := (Ex.exit 0, mk 0 26 [] [])
theorem slices_Equal_Sstring_string.e (a0 : List (List D)) (a1 : List (List D)) :
    slices_Equal_Sstring_string [AV.one (A1.s a0), AV.one (A1.s a1)] [] =
    bif (↑a0.length : Int) != (↑a1.length : Int) then some { cells := [TC.v (Value.bool false)], objs := [] }
else (slices_Equal_Sstring_string.L4 a0 a1 (↑a0.length : Int) 0).bind slices_Equal_Sstring_string.A4 := by
  refine (slices_Equal_Sstring_string.run _ _ (by kernel_rfl)).trans ?_
  delta slices_Equal_Sstring_string slices_Equal_Sstring_string.L4 slices_Equal_Sstring_string.A4 XX
  generalize lpL (Y.ctx (lim' Y)) 34 = lp
  generalize lim' Y = call
  kernel_rfl
theorem slices_Equal_Sstring_string.s4 (y0 : List (List D)) (y1 : List (List D)) (y2 : Int) (y3 : Int) :
    slices_Equal_Sstring_string.L4 y0 y1 y2 y3 =
    bif decide (y3 < y2) then
  bif decide (0 ≤ y3) && decide (y3 < (↑y0.length : Int)) && decide ((y0.getD y3.toNat []).length = 1) then
    bif fitsRow [CK.str] (y0.getD y3.toNat []) 0 && decide (1 ≤ (y0.getD y3.toNat []).length) then
      bif decide (0 ≤ y3) && decide (y3 < (↑y1.length : Int)) && decide ((y1.getD y3.toNat []).length = 1) then
        bif fitsRow [CK.str] (y1.getD y3.toNat []) 0 && decide (1 ≤ (y1.getD y3.toNat []).length) then
          bif !((y0.getD y3.toNat []).getD 0 D.h).str.toList == ((y1.getD y3.toNat []).getD 0 D.h).str.toList then some (slices_Equal_Sstring_string.q4 false)
          else slices_Equal_Sstring_string.L4 y0 y1 y2 (IntKind.i64.wrap (y3 + 1))
        else none
      else none
    else none
  else none
else some slices_Equal_Sstring_string.x4 := by
  refine (lpL_eq (Y := Y) (c := lim' Y) (fn := 34) (rid := 4) (b := bodyAt 4 slices_Equal_Sstring_string.c) (by kernel_rfl) _).trans ?_
  delta slices_Equal_Sstring_string.L4 slices_Equal_Sstring_string.q4 slices_Equal_Sstring_string.x4 XX
  generalize lpL (Y.ctx (lim' Y)) 34 = lp
  generalize lim' Y = call
  kernel_rfl
theorem slices_Equal_Sstring_string.a4q4 (y0 : Bool) :
    slices_Equal_Sstring_string.A4 (slices_Equal_Sstring_string.q4 y0) =
    some { cells := [TC.v (Value.bool y0)], objs := [] } := by
  delta slices_Equal_Sstring_string.A4 slices_Equal_Sstring_string.q4 XX
  generalize lpL (Y.ctx (lim' Y)) 34 = lp
  generalize lim' Y = call
  kernel_rfl
theorem slices_Equal_Sstring_string.a4x4 :
    slices_Equal_Sstring_string.A4 slices_Equal_Sstring_string.x4 =
    some { cells := [TC.v (Value.bool true)], objs := [] } := by
  delta slices_Equal_Sstring_string.A4 slices_Equal_Sstring_string.x4 XX
  generalize lpL (Y.ctx (lim' Y)) 34 = lp
  generalize lim' Y = call
  kernel_rfl


noncomputable def weqNodeOfS.L4 (y0 : List (List D)) (y1 : List (List D)) (y2 : Int) : Option (Ex × St) := lpL XX 35 (bodyAt 4 weqNodeOfS.c) (mk 0 27 [(0, AV.one (A1.s y0)), (1, AV.one (A1.s y1)), (5, AV.one (A1.v (Value.int IntKind.i64 y2)))] [])
noncomputable def weqNodeOfS.A4 : Ex × St → Option Res := fun r => evA XX 35 (lpL XX 35) 4 weqNodeOfS.c r.fst r.snd (outE XX 35 Try.f35)
noncomputable def weqNodeOfS.q4 (y0 : Bool) : Ex × St := (Ex.ret, mk 0 27 [(4, AV.one (A1.v (Value.bool y0)))] [])
noncomputable def weqNodeOfS.x4 : Ex × St := (Ex.exit 0, mk 0 27 [] [])
theorem weqNodeOfS.e (a0 : List (List D)) (a1 : List (List D)) :
    weqNodeOfS [AV.one (A1.s a0), AV.one (A1.s a1)] [] =
    bif (↑a0.length : Int) != (↑a1.length : Int) then some { cells := [TC.v (Value.bool false)], objs := [] } else (weqNodeOfS.L4 a0 a1 0).bind weqNodeOfS.A4 := by
  refine (weqNodeOfS.run _ _ (by kernel_rfl)).trans ?_
  delta weqNodeOfS weqNodeOfS.L4 weqNodeOfS.A4 XX
  generalize lpL (Y.ctx (lim' Y)) 35 = lp
  generalize lim' Y = call
  kernel_rfl
theorem weqNodeOfS.s4 (y0 : List (List D)) (y1 : List (List D)) (y2 : Int) :
    weqNodeOfS.L4 y0 y1 y2 =
    bif decide (y2 < (↑y0.length : Int)) then
  bif decide (0 ≤ y2) && decide (y2 < (↑y0.length : Int)) && decide ((y0.getD y2.toNat []).length = 2) then
    bif fitsRow [CK.int IntKind.i64, CK.sl] (y0.getD y2.toNat []) 0 && decide (2 ≤ (y0.getD y2.toNat []).length) then
      bif decide (0 ≤ y2) && decide (y2 < (↑y1.length : Int)) && decide ((y1.getD y2.toNat []).length = 2) then
        bif fitsRow [CK.int IntKind.i64, CK.sl] (y1.getD y2.toNat []) 0 && decide (2 ≤ (y1.getD y2.toNat []).length) then
          (weqNodeOf
                [AV.g [A1.v (Value.int IntKind.i64 ((y0.getD y2.toNat []).getD 0 D.h).int), A1.s ((y0.getD y2.toNat []).getD 1 D.h).es],
                  AV.g [A1.v (Value.int IntKind.i64 ((y1.getD y2.toNat []).getD 0 D.h).int), A1.s ((y1.getD y2.toNat []).getD 1 D.h).es]]
                []).bind
            fun val => bif fitsCells [R1.bool] val.1 && true then bif !(val.1.getD 0 TC.d).bool then some (weqNodeOfS.q4 false) else weqNodeOfS.L4 y0 y1 (IntKind.i64.wrap (y2 + 1)) else none
        else none
      else none
    else none
  else none
else some weqNodeOfS.x4 := by
  refine (lpL_eq (Y := Y) (c := lim' Y) (fn := 35) (rid := 4) (b := bodyAt 4 weqNodeOfS.c) (by kernel_rfl) _).trans ?_
  delta weqNodeOfS.L4 weqNodeOf weqNodeOfS.q4 weqNodeOfS.x4 XX
  generalize lpL (Y.ctx (lim' Y)) 35 = lp
  generalize lim' Y = call
  kernel_rfl
theorem weqNodeOfS.a4q4 (y0 : Bool) :
    weqNodeOfS.A4 (weqNodeOfS.q4 y0) =
    some { cells := [TC.v (Value.bool y0)], objs := [] } := by
  delta weqNodeOfS.A4 weqNodeOfS.q4 XX
  generalize lpL (Y.ctx (lim' Y)) 35 = lp
  generalize lim' Y = call
  kernel_rfl
theorem weqNodeOfS.a4x4 :
    weqNodeOfS.A4 weqNodeOfS.x4 =
    some { cells := [TC.v (Value.bool true)], objs := [] } := by
  delta weqNodeOfS.A4 weqNodeOfS.x4 XX
  generalize lpL (Y.ctx (lim' Y)) 35 = lp
  generalize lim' Y = call
  kernel_rfl


noncomputable def wmarkNodeOfS.L2 (y0 : Int) (y1 : Int) (y2 : List (List D)) : Option (Ex × St) := lpL XX 36 (bodyAt 2 wmarkNodeOfS.c)
  (mk 1 27 [(0, AV.one (A1.r 0 [] 0)), (1, AV.one (A1.v (Value.int IntKind.i64 y0))), (5, AV.one (A1.v (Value.int IntKind.i64 y1)))]
    [(0, some { kind := Kind.virt, row := [D.s y2], fl := [Own.deep] })])
noncomputable def wmarkNodeOfS.A2 : Ex × St → Option Res := fun r => evA XX 36 (lpL XX 36) 2 wmarkNodeOfS.c r.fst r.snd (outE XX 36 Try.f36)
noncomputable def wmarkNodeOfS.x2 (y0 : Int) (y1 : List (List D)) : Ex × St := (Ex.exit 0, mk 1 27 [(1, AV.one (A1.v (Value.int IntKind.i64 y0)))] [(0, some { kind := Kind.virt, row := [D.s y1], fl := [Own.deep] })])
theorem wmarkNodeOfS.e (a0 : List (List D)) (a1 : Int) :
    wmarkNodeOfS [AV.one (A1.r 0 [] 0), AV.one (A1.v (Value.int IntKind.i64 a1))] [{ kind := Kind.virt, row := [D.s a0], fl := [Own.deep] }] =
    (wmarkNodeOfS.L2 a1 0 a0).bind wmarkNodeOfS.A2 := by
  refine (wmarkNodeOfS.run _ _ (by kernel_rfl)).trans ?_
  delta wmarkNodeOfS wmarkNodeOfS.L2 wmarkNodeOfS.A2 XX
  generalize lpL (Y.ctx (lim' Y)) 36 = lp
  generalize lim' Y = call
  kernel_rfl
theorem wmarkNodeOfS.s2 (y0 : Int) (y1 : Int) (y2 : List (List D)) :
    wmarkNodeOfS.L2 y0 y1 y2 =
    bif decide (y1 < (↑y2.length : Int)) then
  bif decide (0 ≤ y1) && decide (y1 < (↑y2.length : Int)) && decide ((y2.getD y1.toNat []).length = 2) then
    bif decide (1 ≤ (y2.getD y1.toNat []).length) && true then
      bif
          decide (0 ≤ y1) && decide (y1 < (↑(y2.set y1.toNat (D.v (Value.int IntKind.i64 y0) :: List.drop 1 (y2.getD y1.toNat []))).length : Int)) &&
            decide (((y2.set y1.toNat (D.v (Value.int IntKind.i64 y0) :: List.drop 1 (y2.getD y1.toNat []))).getD y1.toNat []).length = 2) then
        bif
            fitsRow [CK.sl] ((y2.set y1.toNat (D.v (Value.int IntKind.i64 y0) :: List.drop 1 (y2.getD y1.toNat []))).getD y1.toNat []) 1 &&
              decide (2 ≤ ((y2.set y1.toNat (D.v (Value.int IntKind.i64 y0) :: List.drop 1 (y2.getD y1.toNat []))).getD y1.toNat []).length) then
          (wmarkStringS [AV.one (A1.r 0 [] 0), AV.one (A1.v (Value.int IntKind.i64 (IntKind.i64.wrap (y0 + 1))))]
                [{ kind := Kind.virt, row := [D.s (((y2.set y1.toNat (D.v (Value.int IntKind.i64 y0) :: List.drop 1 (y2.getD y1.toNat []))).getD y1.toNat []).getD 1 D.h).es], fl := [Own.deep] }]).bind
            fun val =>
            bif
                fitsCells [R1.int IntKind.i64] val.1 &&
                  fitsCos
                    [{
                        ob :=
                          { kind := Kind.virt, row := [D.s (((y2.set y1.toNat (D.v (Value.int IntKind.i64 y0) :: List.drop 1 (y2.getD y1.toNat []))).getD y1.toNat []).getD 1 D.h).es],
                            fl := [Own.deep] },
                        src := Src.sl 0 [(0, y1.toNat)] 1 }]
                    val.2 then
              wmarkNodeOfS.L2 (val.1.getD 0 TC.d).int (IntKind.i64.wrap (y1 + 1))
                ((y2.set y1.toNat (D.v (Value.int IntKind.i64 y0) :: List.drop 1 (y2.getD y1.toNat []))).set y1.toNat
                  (((y2.set y1.toNat (D.v (Value.int IntKind.i64 y0) :: List.drop 1 (y2.getD y1.toNat []))).getD y1.toNat []).set 1
                    (D.s ((val.2.getD 0 { kind := Kind.ro, row := [], fl := [] }).2.getD 0 D.h).es)))
            else none
        else none
      else none
    else none
  else none
else some (wmarkNodeOfS.x2 y0 y2) := by
  refine (lpL_eq (Y := Y) (c := lim' Y) (fn := 36) (rid := 2) (b := bodyAt 2 wmarkNodeOfS.c) (by kernel_rfl) _).trans ?_
  delta wmarkNodeOfS.L2 wmarkStringS wmarkNodeOfS.x2 XX
  generalize lpL (Y.ctx (lim' Y)) 36 = lp
  generalize lim' Y = call
  kernel_rfl
theorem wmarkNodeOfS.a2x2 (y0 : Int) (y1 : List (List D)) :
    wmarkNodeOfS.A2 (wmarkNodeOfS.x2 y0 y1) =
    some { cells := [TC.v (Value.int IntKind.i64 y0)], objs := [{ kind := Kind.virt, row := [D.s y1], fl := [Own.deep] }] } := by
  delta wmarkNodeOfS.A2 wmarkNodeOfS.x2 XX
  generalize lpL (Y.ctx (lim' Y)) 36 = lp
  generalize lim' Y = call
  kernel_rfl


noncomputable def wmarkText.L4 (y0 : Int) (y1 : ByteArray) : Option (Ex × St) := lpL XX 37 (bodyAt 4 wmarkText.c) (mk 0 20 [(0, AV.one (A1.v (Value.int IntKind.i64 y0))), (3, AV.one (A1.v (Value.string y1)))] [])
noncomputable def wmarkText.A4 : Ex × St → Option Res := fun r => evA XX 37 (lpL XX 37) 4 wmarkText.c r.fst r.snd (outE XX 37 Try.f37)
noncomputable def wmarkText.x4 (y0 : ByteArray) : Ex × St := (Ex.exit 0, mk 0 20 [(3, AV.one (A1.v (Value.string y0)))] [])
theorem wmarkText.e (a0 : Int) :
    wmarkText [AV.one (A1.v (Value.int IntKind.i64 a0))] [] =
    bif decide (a0 ≤ 0) then some { cells := [TC.v (Value.string { data := #[OfNat.ofNat 109, OfNat.ofNat 48] })], objs := [] } else (wmarkText.L4 a0 { data := #[] }).bind wmarkText.A4 := by
  refine (wmarkText.run _ _ (by kernel_rfl)).trans ?_
  delta wmarkText wmarkText.L4 wmarkText.A4 XX
  generalize lpL (Y.ctx (lim' Y)) 37 = lp
  generalize lim' Y = call
  kernel_rfl
theorem wmarkText.s4 (y0 : Int) (y1 : ByteArray) :
    wmarkText.L4 y0 y1 =
    bif decide (y0 > 0) then
  bif decide (1 + y1.size ≤ 70368744177664) then wmarkText.L4 (IntKind.i64.wrap (y0.tdiv 10)) (strOf [[D.v (Value.int IntKind.u8 (IntKind.u8.wrap (IntKind.i64.wrap (48 + y0.tmod 10))))]] ++ y1)
  else none
else some (wmarkText.x4 y1) := by
  refine (lpL_eq (Y := Y) (c := lim' Y) (fn := 37) (rid := 4) (b := bodyAt 4 wmarkText.c) (by kernel_rfl) _).trans ?_
  delta wmarkText.L4 wmarkText.x4 XX
  generalize lpL (Y.ctx (lim' Y)) 37 = lp
  generalize lim' Y = call
  kernel_rfl
theorem wmarkText.a4x4 (y0 : ByteArray) :
    wmarkText.A4 (wmarkText.x4 y0) =
    bif decide (1 + y0.size ≤ 70368744177664) then some { cells := [TC.v (Value.string ({ data := #[OfNat.ofNat 109] } ++ y0))], objs := [] } else none := by
  delta wmarkText.A4 wmarkText.x4 XX
  generalize lpL (Y.ctx (lim' Y)) 37 = lp
  generalize lim' Y = call
  kernel_rfl


noncomputable def wszTreeS.L5 (y0 : List (List D)) (y1 : Int) (y2 : Int) : Option (Ex × St) := lpL XX 38 (bodyAt 5 wszTreeS.c) (mk 0 27 [(0, AV.one (A1.s y0)), (1, AV.one (A1.v (Value.int IntKind.i64 y1))), (5, AV.one (A1.v (Value.int IntKind.i64 y2)))] [])
noncomputable def wszTreeS.A5 : Ex × St → Option Res := fun r => evA XX 38 (lpL XX 38) 5 wszTreeS.c r.fst r.snd (outE XX 38 Try.f38)
noncomputable def wszTreeS.q5 (y0 : Int) (y1 : Int) : Ex × St := (Ex.ret, mk 0 27 [(1, AV.one (A1.v (Value.int IntKind.i64 y0))), (4, AV.one (A1.v (Value.int IntKind.i64 y1)))] [])
noncomputable def wszTreeS.x5 (y0 : Int) : Ex × St := (Ex.exit 0, mk 0 27 [(1, AV.one (A1.v (Value.int IntKind.i64 y0)))] [])
theorem wszTreeS.e (a0 : List (List D)) (a1 : Int) :
    wszTreeS [AV.one (A1.s a0), AV.one (A1.v (Value.int IntKind.i64 a1))] [] =
    bif decide (IntKind.i64.wrap (a1 - (↑a0.length : Int)) < 0) then some { cells := [TC.v (Value.int IntKind.i64 (-1))], objs := [] }
else (wszTreeS.L5 a0 (IntKind.i64.wrap (a1 - (↑a0.length : Int))) 0).bind wszTreeS.A5 := by
  refine (wszTreeS.run _ _ (by kernel_rfl)).trans ?_
  delta wszTreeS wszTreeS.L5 wszTreeS.A5 XX
  generalize lpL (Y.ctx (lim' Y)) 38 = lp
  generalize lim' Y = call
  kernel_rfl
theorem wszTreeS.s5 (y0 : List (List D)) (y1 : Int) (y2 : Int) :
    wszTreeS.L5 y0 y1 y2 =
    bif decide (y2 < (↑y0.length : Int)) then
  bif decide (0 ≤ y2) && decide (y2 < (↑y0.length : Int)) && decide ((y0.getD y2.toNat []).length = 5) then
    bif fitsRow [CK.bool, CK.int IntKind.i64, CK.str, CK.sl, CK.sl] (y0.getD y2.toNat []) 0 && decide (5 ≤ (y0.getD y2.toNat []).length) then
      (wszTree
            [AV.g
                [A1.v (Value.bool ((y0.getD y2.toNat []).getD 0 D.h).bool), A1.v (Value.int IntKind.i64 ((y0.getD y2.toNat []).getD 1 D.h).int),
                  A1.v (Value.string ((y0.getD y2.toNat []).getD 2 D.h).str), A1.s ((y0.getD y2.toNat []).getD 3 D.h).es, A1.s ((y0.getD y2.toNat []).getD 4 D.h).es],
              AV.one (A1.v (Value.int IntKind.i64 y1))]
            []).bind
        fun val =>
        bif fitsCells [R1.int IntKind.i64] val.1 && true then
          bif decide ((val.1.getD 0 TC.d).int < 0) then some (wszTreeS.q5 (val.1.getD 0 TC.d).int (-1)) else wszTreeS.L5 y0 (val.1.getD 0 TC.d).int (IntKind.i64.wrap (y2 + 1))
        else none
    else none
  else none
else some (wszTreeS.x5 y1) := by
  refine (lpL_eq (Y := Y) (c := lim' Y) (fn := 38) (rid := 5) (b := bodyAt 5 wszTreeS.c) (by kernel_rfl) _).trans ?_
  delta wszTreeS.L5 wszTree wszTreeS.q5 wszTreeS.x5 XX
  generalize lpL (Y.ctx (lim' Y)) 38 = lp
  generalize lim' Y = call
  kernel_rfl
theorem wszTreeS.a5q5 (y0 : Int) (y1 : Int) :
    wszTreeS.A5 (wszTreeS.q5 y0 y1) =
    some { cells := [TC.v (Value.int IntKind.i64 y1)], objs := [] } := by
  delta wszTreeS.A5 wszTreeS.q5 XX
  generalize lpL (Y.ctx (lim' Y)) 38 = lp
  generalize lim' Y = call
  kernel_rfl
theorem wszTreeS.a5x5 (y0 : Int) :
    wszTreeS.A5 (wszTreeS.x5 y0) =
    some { cells := [TC.v (Value.int IntKind.i64 y0)], objs := [] } := by
  delta wszTreeS.A5 wszTreeS.x5 XX
  generalize lpL (Y.ctx (lim' Y)) 38 = lp
  generalize lim' Y = call
  kernel_rfl


theorem sTreeOk.e (a0 : Bool) (a1 : Int) (a2 : ByteArray) (a3 : List (List D)) (a4 : List (List D)) :
    sTreeOk [AV.g [A1.v (Value.bool a0), A1.v (Value.int IntKind.i64 a1), A1.v (Value.string a2), A1.s a3, A1.s a4]] [] =
    bif a0 then
  (sl1Parts [AV.g [A1.v (Value.bool a0), A1.v (Value.int IntKind.i64 a1), A1.v (Value.string a2), A1.s a3, A1.s a4], AV.one (A1.v (Value.int IntKind.i64 0))] []).bind fun val =>
    bif fitsCells [R1.bool] val.1 && true then
      bif (val.1.getD 0 TC.d).bool then
        (sl1Count [AV.g [A1.v (Value.bool a0), A1.v (Value.int IntKind.i64 a1), A1.v (Value.string a2), A1.s a3, A1.s a4]] []).bind fun val =>
          bif fitsCells [R1.int IntKind.i64] val.1 && true then some { cells := [TC.v (Value.bool (decide ((val.1.getD 0 TC.d).int ≤ 30)))], objs := [] } else none
      else some { cells := [TC.v (Value.bool false)], objs := [] }
    else none
else some { cells := [TC.v (Value.bool false)], objs := [] } := by
  refine (sTreeOk.run _ _ (by kernel_rfl)).trans ?_
  delta sTreeOk sl1Parts sl1Count XX
  generalize lpL (Y.ctx (lim' Y)) 39 = lp
  generalize lim' Y = call
  kernel_rfl


noncomputable def sl33Paths.L3 (y0 : List (List D)) (y1 : Int) (y2 : Bool) (y3 : Int) (y4 : ByteArray) (y5 : List (List D)) (y6 : List (List D)) (y7 : List (List D)) : Option (Ex × St) := lpL XX 40 (bodyAt 3 sl33Paths.c)
  (mk 0 36 [(0, AV.one (A1.s y0)), (3, AV.one (A1.p true 3 [] 0)), (5, AV.one (A1.r 5 [] 0)), (6, AV.one (A1.v (Value.int IntKind.i64 y1)))]
    [(3, some { kind := Kind.box, row := [D.v (Value.bool y2), D.v (Value.int IntKind.i64 y3), D.v (Value.string y4), D.s y5, D.s y6], fl := [Own.deep, Own.deep, Own.deep, Own.sh, Own.sh] }),
      (5, some { kind := Kind.virt, row := [D.s y7], fl := [Own.deep] })])
noncomputable def sl33Paths.A3 : Ex × St → Option Res := fun r => evA XX 40 (lpL XX 40) 3 sl33Paths.c r.fst r.snd (outE XX 40 Try.f40)
noncomputable def sl33Paths.L3b (y0 : List (List D)) (y1 : Int) (y2 : Bool) (y3 : Int) (y4 : ByteArray) (y5 : List (List D)) (y6 : List (List D)) (y7 : List (List D)) : Option (Ex × St) := lpL XX 40 (bodyAt 3 sl33Paths.c)
  (mk 0 36 [(0, AV.one (A1.s y0)), (3, AV.one (A1.p true 3 [] 0)), (5, AV.one (A1.r 5 [] 0)), (6, AV.one (A1.v (Value.int IntKind.i64 y1)))]
    [(3, some { kind := Kind.box, row := [D.v (Value.bool y2), D.v (Value.int IntKind.i64 y3), D.v (Value.string y4), D.s y5, D.s y6], fl := [Own.deep, Own.deep, Own.deep, Own.sh, Own.sh] }),
      (5, some { kind := Kind.virt, row := [D.s y7], fl := [Own.top] })])
noncomputable def sl33Paths.x3 (y0 : List (List D)) : Ex × St := (Ex.exit 0, mk 0 36 [(5, AV.one (A1.r 5 [] 0))] [(5, some { kind := Kind.virt, row := [D.s y0], fl := [Own.deep] })])
noncomputable def sl33Paths.x3b (y0 : List (List D)) : Ex × St := (Ex.exit 0, mk 0 36 [(5, AV.one (A1.r 5 [] 0))] [(5, some { kind := Kind.virt, row := [D.s y0], fl := [Own.top] })])
theorem sl33Paths.e (a0 : List (List D)) (a1 : Bool) (a2 : Int) (a3 : ByteArray) (a4 : List (List D)) (a5 : List (List D)) :
    sl33Paths [AV.one (A1.s a0), AV.g [A1.v (Value.bool a1), A1.v (Value.int IntKind.i64 a2), A1.v (Value.string a3), A1.s a4, A1.s a5]] [] =
    (sl33Paths.L3 a0 0 a1 a2 a3 a4 a5 []).bind sl33Paths.A3 := by
  refine (sl33Paths.run _ _ (by kernel_rfl)).trans ?_
  delta sl33Paths sl33Paths.L3 sl33Paths.A3 XX
  generalize lpL (Y.ctx (lim' Y)) 40 = lp
  generalize lim' Y = call
  kernel_rfl
theorem sl33Paths.s3 (y0 : List (List D)) (y1 : Int) (y2 : Bool) (y3 : Int) (y4 : ByteArray) (y5 : List (List D)) (y6 : List (List D)) (y7 : List (List D)) :
    sl33Paths.L3 y0 y1 y2 y3 y4 y5 y6 y7 =
    bif decide (y1 < (↑y5.length : Int)) then
  bif decide (0 ≤ y1) && decide (y1 < (↑y5.length : Int)) && decide ((y5.getD y1.toNat []).length = 1) then
    bif fitsRow [CK.str] (y5.getD y1.toNat []) 0 && decide (1 ≤ (y5.getD y1.toNat []).length) then
      (sl3Path [AV.one (A1.s y0), AV.one (A1.v (Value.string ((y5.getD y1.toNat []).getD 0 D.h).str))] []).bind fun val =>
        bif fitsCells [R1.sh] val.1 && true then
          bif rowsLen 1 y7 && true && true && true && decide ((y7.length + 1) * 25 ≤ 70368744177664) then
            bif decide (0 ≤ y1) && decide (y1 < (↑y6.length : Int)) && decide ((y6.getD y1.toNat []).length = 5) then
              bif fitsRow [CK.bool, CK.int IntKind.i64, CK.str, CK.sl, CK.sl] (y6.getD y1.toNat []) 0 && decide (5 ≤ (y6.getD y1.toNat []).length) then
                (sl33Paths
                      [AV.one (A1.s (val.1.getD 0 TC.d).es),
                        AV.g
                          [A1.v (Value.bool ((y6.getD y1.toNat []).getD 0 D.h).bool), A1.v (Value.int IntKind.i64 ((y6.getD y1.toNat []).getD 1 D.h).int),
                            A1.v (Value.string ((y6.getD y1.toNat []).getD 2 D.h).str), A1.s ((y6.getD y1.toNat []).getD 3 D.h).es, A1.s ((y6.getD y1.toNat []).getD 4 D.h).es]]
                      []).bind
                  fun val_1 =>
                  bif fitsCells [R1.sh] val_1.1 && true then
                    bif
                        rowsLen 1 (y7 ++ [[D.s (val.1.getD 0 TC.d).es]]) && rowsLen 1 (val_1.1.getD 0 TC.d).es && rowsCell true (val_1.1.getD 0 TC.d).es && true &&
                          decide (((y7 ++ [[D.s (val.1.getD 0 TC.d).es]]).length + (val_1.1.getD 0 TC.d).es.length) * 25 ≤ 70368744177664) then
                      sl33Paths.L3b y0 (IntKind.i64.wrap (y1 + 1)) y2 y3 y4 y5 y6 (y7 ++ [[D.s (val.1.getD 0 TC.d).es]] ++ (val_1.1.getD 0 TC.d).es)
                    else none
                  else none
              else none
            else none
          else none
        else none
    else none
  else none
else some (sl33Paths.x3 y7) := by
  refine (lpL_eq (Y := Y) (c := lim' Y) (fn := 40) (rid := 3) (b := bodyAt 3 sl33Paths.c) (by kernel_rfl) _).trans ?_
  delta sl33Paths.L3 sl3Path sl33Paths sl33Paths.L3b sl33Paths.x3 XX
  generalize lpL (Y.ctx (lim' Y)) 40 = lp
  generalize lim' Y = call
  kernel_rfl
theorem sl33Paths.s3b (y0 : List (List D)) (y1 : Int) (y2 : Bool) (y3 : Int) (y4 : ByteArray) (y5 : List (List D)) (y6 : List (List D)) (y7 : List (List D)) :
    sl33Paths.L3b y0 y1 y2 y3 y4 y5 y6 y7 =
    bif decide (y1 < (↑y5.length : Int)) then
  bif decide (0 ≤ y1) && decide (y1 < (↑y5.length : Int)) && decide ((y5.getD y1.toNat []).length = 1) then
    bif fitsRow [CK.str] (y5.getD y1.toNat []) 0 && decide (1 ≤ (y5.getD y1.toNat []).length) then
      (sl3Path [AV.one (A1.s y0), AV.one (A1.v (Value.string ((y5.getD y1.toNat []).getD 0 D.h).str))] []).bind fun val =>
        bif fitsCells [R1.sh] val.1 && true then
          bif rowsLen 1 y7 && true && true && true && decide ((y7.length + 1) * 25 ≤ 70368744177664) then
            bif decide (0 ≤ y1) && decide (y1 < (↑y6.length : Int)) && decide ((y6.getD y1.toNat []).length = 5) then
              bif fitsRow [CK.bool, CK.int IntKind.i64, CK.str, CK.sl, CK.sl] (y6.getD y1.toNat []) 0 && decide (5 ≤ (y6.getD y1.toNat []).length) then
                (sl33Paths
                      [AV.one (A1.s (val.1.getD 0 TC.d).es),
                        AV.g
                          [A1.v (Value.bool ((y6.getD y1.toNat []).getD 0 D.h).bool), A1.v (Value.int IntKind.i64 ((y6.getD y1.toNat []).getD 1 D.h).int),
                            A1.v (Value.string ((y6.getD y1.toNat []).getD 2 D.h).str), A1.s ((y6.getD y1.toNat []).getD 3 D.h).es, A1.s ((y6.getD y1.toNat []).getD 4 D.h).es]]
                      []).bind
                  fun val_1 =>
                  bif fitsCells [R1.sh] val_1.1 && true then
                    bif
                        rowsLen 1 (y7 ++ [[D.s (val.1.getD 0 TC.d).es]]) && rowsLen 1 (val_1.1.getD 0 TC.d).es && rowsCell true (val_1.1.getD 0 TC.d).es && true &&
                          decide (((y7 ++ [[D.s (val.1.getD 0 TC.d).es]]).length + (val_1.1.getD 0 TC.d).es.length) * 25 ≤ 70368744177664) then
                      sl33Paths.L3b y0 (IntKind.i64.wrap (y1 + 1)) y2 y3 y4 y5 y6 (y7 ++ [[D.s (val.1.getD 0 TC.d).es]] ++ (val_1.1.getD 0 TC.d).es)
                    else none
                  else none
              else none
            else none
          else none
        else none
    else none
  else none
else some (sl33Paths.x3b y7) := by
  refine (lpL_eq (Y := Y) (c := lim' Y) (fn := 40) (rid := 3) (b := bodyAt 3 sl33Paths.c) (by kernel_rfl) _).trans ?_
  delta sl33Paths.L3b sl3Path sl33Paths sl33Paths.x3b XX
  generalize lpL (Y.ctx (lim' Y)) 40 = lp
  generalize lim' Y = call
  kernel_rfl
theorem sl33Paths.a3x3 (y0 : List (List D)) :
    sl33Paths.A3 (sl33Paths.x3 y0) =
    some { cells := [TC.s y0], objs := [] } := by
  delta sl33Paths.A3 sl33Paths.x3 XX
  generalize lpL (Y.ctx (lim' Y)) 40 = lp
  generalize lim' Y = call
  kernel_rfl
theorem sl33Paths.a3x3b (y0 : List (List D)) :
    sl33Paths.A3 (sl33Paths.x3b y0) =
    some { cells := [TC.s y0], objs := [] } := by
  delta sl33Paths.A3 sl33Paths.x3b XX
  generalize lpL (Y.ctx (lim' Y)) 40 = lp
  generalize lim' Y = call
  kernel_rfl


noncomputable def wtoTreeS.L3 (y0 : List (List D)) (y1 : Int) (y2 : List (List D)) : Option (Ex × St) := lpL XX 41 (bodyAt 3 wtoTreeS.c)
  (mk 0 23 [(0, AV.one (A1.s y0)), (3, AV.one (A1.r 3 [] 0)), (4, AV.one (A1.v (Value.int IntKind.i64 y1)))] [(3, some { kind := Kind.virt, row := [D.s y2], fl := [Own.deep] })])
noncomputable def wtoTreeS.A3 : Ex × St → Option Res := fun r => evA XX 41 (lpL XX 41) 3 wtoTreeS.c r.fst r.snd (outE XX 41 Try.f41)
noncomputable def wtoTreeS.x3 (y0 : List (List D)) : Ex × St := (Ex.exit 0, mk 0 23 [(3, AV.one (A1.r 3 [] 0))] [(3, some { kind := Kind.virt, row := [D.s y0], fl := [Own.deep] })])
theorem wtoTreeS.e (a0 : List (List D)) :
    wtoTreeS [AV.one (A1.s a0)] [] =
    bif decide ((↑a0.length : Int) * ((↑80 : Int) + 1) ≤ 2 ^ 46) && true && true then
  (wtoTreeS.L3 a0 0 (List.replicate (↑a0.length : Int).toNat [D.v (Value.bool false), D.v (Value.int IntKind.i64 0), D.v (Value.string { data := #[] }), D.s [], D.s []])).bind wtoTreeS.A3
else none := by
  refine (wtoTreeS.run _ _ (by kernel_rfl)).trans ?_
  delta wtoTreeS wtoTreeS.L3 wtoTreeS.A3 XX
  generalize lpL (Y.ctx (lim' Y)) 41 = lp
  generalize lim' Y = call
  kernel_rfl
theorem wtoTreeS.s3 (y0 : List (List D)) (y1 : Int) (y2 : List (List D)) :
    wtoTreeS.L3 y0 y1 y2 =
    bif decide (y1 < (↑y0.length : Int)) then
  bif decide (0 ≤ y1) && decide (y1 < (↑y0.length : Int)) && decide ((y0.getD y1.toNat []).length = 5) then
    bif fitsRow [CK.bool, CK.int IntKind.i64, CK.str, CK.sl, CK.sl] (y0.getD y1.toNat []) 0 && decide (5 ≤ (y0.getD y1.toNat []).length) then
      (wtoTree
            [AV.g
                [A1.v (Value.bool ((y0.getD y1.toNat []).getD 0 D.h).bool), A1.v (Value.int IntKind.i64 ((y0.getD y1.toNat []).getD 1 D.h).int),
                  A1.v (Value.string ((y0.getD y1.toNat []).getD 2 D.h).str), A1.s ((y0.getD y1.toNat []).getD 3 D.h).es, A1.s ((y0.getD y1.toNat []).getD 4 D.h).es]]
            []).bind
        fun val =>
        bif fitsCells [R1.bool, R1.int IntKind.i64, R1.str, R1.own Own.deep, R1.own Own.deep] val.1 && true then
          bif decide (0 ≤ y1) && decide (y1 < (↑y2.length : Int)) && decide ((y2.getD y1.toNat []).length = 5) then
            bif decide (5 ≤ (y2.getD y1.toNat []).length) && true then
              wtoTreeS.L3 y0 (IntKind.i64.wrap (y1 + 1))
                (y2.set y1.toNat
                  (D.v (Value.bool (val.1.getD 0 TC.d).bool) ::
                    D.v (Value.int IntKind.i64 (val.1.getD 1 TC.d).int) ::
                      D.v (Value.string (val.1.getD 2 TC.d).str) :: D.s (val.1.getD 3 TC.d).es :: D.s (val.1.getD 4 TC.d).es :: List.drop 5 (y2.getD y1.toNat [])))
            else none
          else none
        else none
    else none
  else none
else some (wtoTreeS.x3 y2) := by
  refine (lpL_eq (Y := Y) (c := lim' Y) (fn := 41) (rid := 3) (b := bodyAt 3 wtoTreeS.c) (by kernel_rfl) _).trans ?_
  delta wtoTreeS.L3 wtoTree wtoTreeS.x3 XX
  generalize lpL (Y.ctx (lim' Y)) 41 = lp
  generalize lim' Y = call
  kernel_rfl
theorem wtoTreeS.a3x3 (y0 : List (List D)) :
    wtoTreeS.A3 (wtoTreeS.x3 y0) =
    some { cells := [TC.o Own.deep y0], objs := [] } := by
  delta wtoTreeS.A3 wtoTreeS.x3 XX
  generalize lpL (Y.ctx (lim' Y)) 41 = lp
  generalize lim' Y = call
  kernel_rfl


theorem iTreeOk.e (a0 : Bool) (a1 : Int) (a2 : ByteArray) (a3 : List (List D)) (a4 : List (List D)) :
    iTreeOk [AV.g [A1.v (Value.bool a0), A1.v (Value.int IntKind.i64 a1), A1.v (Value.string a2), A1.s a3, A1.s a4]] [] =
    bif a0 then
  (iTree_sound [AV.g [A1.v (Value.bool a0), A1.v (Value.int IntKind.i64 a1), A1.v (Value.string a2), A1.s a3, A1.s a4], AV.one (A1.v (Value.int IntKind.i64 0))] []).bind fun val =>
    bif fitsCells [R1.bool] val.1 && true then
      bif (val.1.getD 0 TC.d).bool then
        (iTree_paths [AV.g [A1.v (Value.bool a0), A1.v (Value.int IntKind.i64 a1), A1.v (Value.string a2), A1.s a3, A1.s a4]] []).bind fun val =>
          bif fitsCells [R1.int IntKind.i64] val.1 && true then some { cells := [TC.v (Value.bool (decide ((val.1.getD 0 TC.d).int ≤ 31)))], objs := [] } else none
      else some { cells := [TC.v (Value.bool false)], objs := [] }
    else none
else some { cells := [TC.v (Value.bool false)], objs := [] } := by
  refine (iTreeOk.run _ _ (by kernel_rfl)).trans ?_
  delta iTreeOk iTree_sound iTree_paths XX
  generalize lpL (Y.ctx (lim' Y)) 42 = lp
  generalize lim' Y = call
  kernel_rfl


theorem ipathsOf.e (a0 : Bool) (a1 : Int) (a2 : ByteArray) (a3 : List (List D)) (a4 : List (List D)) :
    ipathsOf [AV.g [A1.v (Value.bool a0), A1.v (Value.int IntKind.i64 a1), A1.v (Value.string a2), A1.s a3, A1.s a4]] [] =
    (iTree_each [AV.g [A1.v (Value.bool a0), A1.v (Value.int IntKind.i64 a1), A1.v (Value.string a2), A1.s a3, A1.s a4], AV.one (A1.v (Value.slice none 0 0)), AV.f ipathsOf_1.id [A1.p true 0 [] 0]]
      [{ kind := Kind.box, row := [D.s []], fl := [Own.deep] }]).bind
  fun val =>
  bif fitsCells [] val.1 && fitsCos [{ ob := { kind := Kind.box, row := [D.s []], fl := [Own.deep] }, src := Src.box 3 }] val.2 then
    some { cells := [TC.o Own.deep ((val.2.getD 0 { kind := Kind.ro, row := [], fl := [] }).2.getD 0 D.h).es], objs := [] }
  else none := by
  refine (ipathsOf.run _ _ (by kernel_rfl)).trans ?_
  delta ipathsOf iTree_each ipathsOf_1.id XX
  generalize lpL (Y.ctx (lim' Y)) 43 = lp
  generalize lim' Y = call
  kernel_rfl


noncomputable def weqTreeS.L4 (y0 : List (List D)) (y1 : List (List D)) (y2 : Int) : Option (Ex × St) := lpL XX 44 (bodyAt 4 weqTreeS.c) (mk 0 27 [(0, AV.one (A1.s y0)), (1, AV.one (A1.s y1)), (5, AV.one (A1.v (Value.int IntKind.i64 y2)))] [])
noncomputable def weqTreeS.A4 : Ex × St → Option Res := fun r => evA XX 44 (lpL XX 44) 4 weqTreeS.c r.fst r.snd (outE XX 44 Try.f44)
noncomputable def weqTreeS.q4 (y0 : Bool) : Ex × St := (Ex.ret, mk 0 27 [(4, AV.one (A1.v (Value.bool y0)))] [])
noncomputable def weqTreeS.x4 : Ex × St := (Ex.exit 0, mk 0 27 [] [])
theorem weqTreeS.e (a0 : List (List D)) (a1 : List (List D)) :
    weqTreeS [AV.one (A1.s a0), AV.one (A1.s a1)] [] =
    bif (↑a0.length : Int) != (↑a1.length : Int) then some { cells := [TC.v (Value.bool false)], objs := [] } else (weqTreeS.L4 a0 a1 0).bind weqTreeS.A4 := by
  refine (weqTreeS.run _ _ (by kernel_rfl)).trans ?_
  delta weqTreeS weqTreeS.L4 weqTreeS.A4 XX
  generalize lpL (Y.ctx (lim' Y)) 44 = lp
  generalize lim' Y = call
  kernel_rfl
theorem weqTreeS.s4 (y0 : List (List D)) (y1 : List (List D)) (y2 : Int) :
    weqTreeS.L4 y0 y1 y2 =
    bif decide (y2 < (↑y0.length : Int)) then
  bif decide (0 ≤ y2) && decide (y2 < (↑y0.length : Int)) && decide ((y0.getD y2.toNat []).length = 5) then
    bif fitsRow [CK.bool, CK.int IntKind.i64, CK.str, CK.sl, CK.sl] (y0.getD y2.toNat []) 0 && decide (5 ≤ (y0.getD y2.toNat []).length) then
      bif decide (0 ≤ y2) && decide (y2 < (↑y1.length : Int)) && decide ((y1.getD y2.toNat []).length = 5) then
        bif fitsRow [CK.bool, CK.int IntKind.i64, CK.str, CK.sl, CK.sl] (y1.getD y2.toNat []) 0 && decide (5 ≤ (y1.getD y2.toNat []).length) then
          (weqTree
                [AV.g
                    [A1.v (Value.bool ((y0.getD y2.toNat []).getD 0 D.h).bool), A1.v (Value.int IntKind.i64 ((y0.getD y2.toNat []).getD 1 D.h).int),
                      A1.v (Value.string ((y0.getD y2.toNat []).getD 2 D.h).str), A1.s ((y0.getD y2.toNat []).getD 3 D.h).es, A1.s ((y0.getD y2.toNat []).getD 4 D.h).es],
                  AV.g
                    [A1.v (Value.bool ((y1.getD y2.toNat []).getD 0 D.h).bool), A1.v (Value.int IntKind.i64 ((y1.getD y2.toNat []).getD 1 D.h).int),
                      A1.v (Value.string ((y1.getD y2.toNat []).getD 2 D.h).str), A1.s ((y1.getD y2.toNat []).getD 3 D.h).es, A1.s ((y1.getD y2.toNat []).getD 4 D.h).es]]
                []).bind
            fun val => bif fitsCells [R1.bool] val.1 && true then bif !(val.1.getD 0 TC.d).bool then some (weqTreeS.q4 false) else weqTreeS.L4 y0 y1 (IntKind.i64.wrap (y2 + 1)) else none
        else none
      else none
    else none
  else none
else some weqTreeS.x4 := by
  refine (lpL_eq (Y := Y) (c := lim' Y) (fn := 44) (rid := 4) (b := bodyAt 4 weqTreeS.c) (by kernel_rfl) _).trans ?_
  delta weqTreeS.L4 weqTree weqTreeS.q4 weqTreeS.x4 XX
  generalize lpL (Y.ctx (lim' Y)) 44 = lp
  generalize lim' Y = call
  kernel_rfl
theorem weqTreeS.a4q4 (y0 : Bool) :
    weqTreeS.A4 (weqTreeS.q4 y0) =
    some { cells := [TC.v (Value.bool y0)], objs := [] } := by
  delta weqTreeS.A4 weqTreeS.q4 XX
  generalize lpL (Y.ctx (lim' Y)) 44 = lp
  generalize lim' Y = call
  kernel_rfl
theorem weqTreeS.a4x4 :
    weqTreeS.A4 weqTreeS.x4 =
    some { cells := [TC.v (Value.bool true)], objs := [] } := by
  delta weqTreeS.A4 weqTreeS.x4 XX
  generalize lpL (Y.ctx (lim' Y)) 44 = lp
  generalize lim' Y = call
  kernel_rfl


noncomputable def wmarkTreeS.L2 (y0 : Int) (y1 : Int) (y2 : List (List D)) : Option (Ex × St) := lpL XX 45 (bodyAt 2 wmarkTreeS.c)
  (mk 1 51 [(0, AV.one (A1.r 0 [] 0)), (1, AV.one (A1.v (Value.int IntKind.i64 y0))), (5, AV.one (A1.v (Value.int IntKind.i64 y1)))]
    [(0, some { kind := Kind.virt, row := [D.s y2], fl := [Own.deep] })])
noncomputable def wmarkTreeS.A2 : Ex × St → Option Res := fun r => evA XX 45 (lpL XX 45) 2 wmarkTreeS.c r.fst r.snd (outE XX 45 Try.f45)
noncomputable def wmarkTreeS.x2 (y0 : Int) (y1 : List (List D)) : Ex × St := (Ex.exit 0, mk 1 51 [(1, AV.one (A1.v (Value.int IntKind.i64 y0)))] [(0, some { kind := Kind.virt, row := [D.s y1], fl := [Own.deep] })])
theorem wmarkTreeS.e (a0 : List (List D)) (a1 : Int) :
    wmarkTreeS [AV.one (A1.r 0 [] 0), AV.one (A1.v (Value.int IntKind.i64 a1))] [{ kind := Kind.virt, row := [D.s a0], fl := [Own.deep] }] =
    (wmarkTreeS.L2 a1 0 a0).bind wmarkTreeS.A2 := by
  refine (wmarkTreeS.run _ _ (by kernel_rfl)).trans ?_
  delta wmarkTreeS wmarkTreeS.L2 wmarkTreeS.A2 XX
  generalize lpL (Y.ctx (lim' Y)) 45 = lp
  generalize lim' Y = call
  kernel_rfl
theorem wmarkTreeS.s2 (y0 : Int) (y1 : Int) (y2 : List (List D)) :
    wmarkTreeS.L2 y0 y1 y2 =
    bif decide (y1 < (↑y2.length : Int)) then
  bif decide (0 ≤ y1) && decide (y1 < (↑y2.length : Int)) && decide ((y2.getD y1.toNat []).length = 5) then
    bif decide (1 ≤ (y2.getD y1.toNat []).length) && true then
      bif
          decide (0 ≤ y1) && decide (y1 < (↑(y2.set y1.toNat (D.v (Value.bool (y0.tmod 3 == 0)) :: List.drop 1 (y2.getD y1.toNat []))).length : Int)) &&
            decide (((y2.set y1.toNat (D.v (Value.bool (y0.tmod 3 == 0)) :: List.drop 1 (y2.getD y1.toNat []))).getD y1.toNat []).length = 5) then
        bif decide (2 ≤ ((y2.set y1.toNat (D.v (Value.bool (y0.tmod 3 == 0)) :: List.drop 1 (y2.getD y1.toNat []))).getD y1.toNat []).length) && true then
          (wmarkText [AV.one (A1.v (Value.int IntKind.i64 (IntKind.i64.wrap (IntKind.i64.wrap (y0 + 1) + 1))))] []).bind fun val =>
            bif fitsCells [R1.str] val.1 && true then
              bif
                  decide (0 ≤ y1) &&
                      decide
                        (y1 <
                          (↑((y2.set y1.toNat (D.v (Value.bool (y0.tmod 3 == 0)) :: List.drop 1 (y2.getD y1.toNat []))).set y1.toNat
                                  (List.take 1 ((y2.set y1.toNat (D.v (Value.bool (y0.tmod 3 == 0)) :: List.drop 1 (y2.getD y1.toNat []))).getD y1.toNat []) ++
                                      [D.v (Value.int IntKind.i64 (IntKind.i64.wrap (y0 + 1)))] ++
                                    List.drop 2 ((y2.set y1.toNat (D.v (Value.bool (y0.tmod 3 == 0)) :: List.drop 1 (y2.getD y1.toNat []))).getD y1.toNat []))).length :
                            Int)) &&
                    decide
                      ((((y2.set y1.toNat (D.v (Value.bool (y0.tmod 3 == 0)) :: List.drop 1 (y2.getD y1.toNat []))).set y1.toNat
                                (List.take 1 ((y2.set y1.toNat (D.v (Value.bool (y0.tmod 3 == 0)) :: List.drop 1 (y2.getD y1.toNat []))).getD y1.toNat []) ++
                                    [D.v (Value.int IntKind.i64 (IntKind.i64.wrap (y0 + 1)))] ++
                                  List.drop 2 ((y2.set y1.toNat (D.v (Value.bool (y0.tmod 3 == 0)) :: List.drop 1 (y2.getD y1.toNat []))).getD y1.toNat []))).getD
                            y1.toNat []).length =
                        5) then
                bif
                    decide
                        (3 ≤
                          (((y2.set y1.toNat (D.v (Value.bool (y0.tmod 3 == 0)) :: List.drop 1 (y2.getD y1.toNat []))).set y1.toNat
                                  (List.take 1 ((y2.set y1.toNat (D.v (Value.bool (y0.tmod 3 == 0)) :: List.drop 1 (y2.getD y1.toNat []))).getD y1.toNat []) ++
                                      [D.v (Value.int IntKind.i64 (IntKind.i64.wrap (y0 + 1)))] ++
                                    List.drop 2 ((y2.set y1.toNat (D.v (Value.bool (y0.tmod 3 == 0)) :: List.drop 1 (y2.getD y1.toNat []))).getD y1.toNat []))).getD
                              y1.toNat []).length) &&
                      true then
                  bif
                      decide (0 ≤ y1) &&
                          decide
                            (y1 <
                              (↑(((y2.set y1.toNat (D.v (Value.bool (y0.tmod 3 == 0)) :: List.drop 1 (y2.getD y1.toNat []))).set y1.toNat
                                          (List.take 1 ((y2.set y1.toNat (D.v (Value.bool (y0.tmod 3 == 0)) :: List.drop 1 (y2.getD y1.toNat []))).getD y1.toNat []) ++
                                              [D.v (Value.int IntKind.i64 (IntKind.i64.wrap (y0 + 1)))] ++
                                            List.drop 2 ((y2.set y1.toNat (D.v (Value.bool (y0.tmod 3 == 0)) :: List.drop 1 (y2.getD y1.toNat []))).getD y1.toNat []))).set
                                      y1.toNat
                                      (List.take 2
                                            (((y2.set y1.toNat (D.v (Value.bool (y0.tmod 3 == 0)) :: List.drop 1 (y2.getD y1.toNat []))).set y1.toNat
                                                  (List.take 1 ((y2.set y1.toNat (D.v (Value.bool (y0.tmod 3 == 0)) :: List.drop 1 (y2.getD y1.toNat []))).getD y1.toNat []) ++
                                                      [D.v (Value.int IntKind.i64 (IntKind.i64.wrap (y0 + 1)))] ++
                                                    List.drop 2 ((y2.set y1.toNat (D.v (Value.bool (y0.tmod 3 == 0)) :: List.drop 1 (y2.getD y1.toNat []))).getD y1.toNat []))).getD
                                              y1.toNat []) ++
                                          [D.v (Value.string (val.1.getD 0 TC.d).str)] ++
                                        List.drop 3
                                          (((y2.set y1.toNat (D.v (Value.bool (y0.tmod 3 == 0)) :: List.drop 1 (y2.getD y1.toNat []))).set y1.toNat
                                                (List.take 1 ((y2.set y1.toNat (D.v (Value.bool (y0.tmod 3 == 0)) :: List.drop 1 (y2.getD y1.toNat []))).getD y1.toNat []) ++
                                                    [D.v (Value.int IntKind.i64 (IntKind.i64.wrap (y0 + 1)))] ++
                                                  List.drop 2 ((y2.set y1.toNat (D.v (Value.bool (y0.tmod 3 == 0)) :: List.drop 1 (y2.getD y1.toNat []))).getD y1.toNat []))).getD
                                            y1.toNat []))).length :
                                Int)) &&
                        decide
                          (((((y2.set y1.toNat (D.v (Value.bool (y0.tmod 3 == 0)) :: List.drop 1 (y2.getD y1.toNat []))).set y1.toNat
                                        (List.take 1 ((y2.set y1.toNat (D.v (Value.bool (y0.tmod 3 == 0)) :: List.drop 1 (y2.getD y1.toNat []))).getD y1.toNat []) ++
                                            [D.v (Value.int IntKind.i64 (IntKind.i64.wrap (y0 + 1)))] ++
                                          List.drop 2 ((y2.set y1.toNat (D.v (Value.bool (y0.tmod 3 == 0)) :: List.drop 1 (y2.getD y1.toNat []))).getD y1.toNat []))).set
                                    y1.toNat
                                    (List.take 2
                                          (((y2.set y1.toNat (D.v (Value.bool (y0.tmod 3 == 0)) :: List.drop 1 (y2.getD y1.toNat []))).set y1.toNat
                                                (List.take 1 ((y2.set y1.toNat (D.v (Value.bool (y0.tmod 3 == 0)) :: List.drop 1 (y2.getD y1.toNat []))).getD y1.toNat []) ++
                                                    [D.v (Value.int IntKind.i64 (IntKind.i64.wrap (y0 + 1)))] ++
                                                  List.drop 2 ((y2.set y1.toNat (D.v (Value.bool (y0.tmod 3 == 0)) :: List.drop 1 (y2.getD y1.toNat []))).getD y1.toNat []))).getD
                                            y1.toNat []) ++
                                        [D.v (Value.string (val.1.getD 0 TC.d).str)] ++
                                      List.drop 3
                                        (((y2.set y1.toNat (D.v (Value.bool (y0.tmod 3 == 0)) :: List.drop 1 (y2.getD y1.toNat []))).set y1.toNat
                                              (List.take 1 ((y2.set y1.toNat (D.v (Value.bool (y0.tmod 3 == 0)) :: List.drop 1 (y2.getD y1.toNat []))).getD y1.toNat []) ++
                                                  [D.v (Value.int IntKind.i64 (IntKind.i64.wrap (y0 + 1)))] ++
                                                List.drop 2 ((y2.set y1.toNat (D.v (Value.bool (y0.tmod 3 == 0)) :: List.drop 1 (y2.getD y1.toNat []))).getD y1.toNat []))).getD
                                          y1.toNat []))).getD
                                y1.toNat []).length =
                            5) then
                    bif
                        fitsRow [CK.sl]
                            ((((y2.set y1.toNat (D.v (Value.bool (y0.tmod 3 == 0)) :: List.drop 1 (y2.getD y1.toNat []))).set y1.toNat
                                      (List.take 1 ((y2.set y1.toNat (D.v (Value.bool (y0.tmod 3 == 0)) :: List.drop 1 (y2.getD y1.toNat []))).getD y1.toNat []) ++
                                          [D.v (Value.int IntKind.i64 (IntKind.i64.wrap (y0 + 1)))] ++
                                        List.drop 2 ((y2.set y1.toNat (D.v (Value.bool (y0.tmod 3 == 0)) :: List.drop 1 (y2.getD y1.toNat []))).getD y1.toNat []))).set
                                  y1.toNat
                                  (List.take 2
                                        (((y2.set y1.toNat (D.v (Value.bool (y0.tmod 3 == 0)) :: List.drop 1 (y2.getD y1.toNat []))).set y1.toNat
                                              (List.take 1 ((y2.set y1.toNat (D.v (Value.bool (y0.tmod 3 == 0)) :: List.drop 1 (y2.getD y1.toNat []))).getD y1.toNat []) ++
                                                  [D.v (Value.int IntKind.i64 (IntKind.i64.wrap (y0 + 1)))] ++
                                                List.drop 2 ((y2.set y1.toNat (D.v (Value.bool (y0.tmod 3 == 0)) :: List.drop 1 (y2.getD y1.toNat []))).getD y1.toNat []))).getD
                                          y1.toNat []) ++
                                      [D.v (Value.string (val.1.getD 0 TC.d).str)] ++
                                    List.drop 3
                                      (((y2.set y1.toNat (D.v (Value.bool (y0.tmod 3 == 0)) :: List.drop 1 (y2.getD y1.toNat []))).set y1.toNat
                                            (List.take 1 ((y2.set y1.toNat (D.v (Value.bool (y0.tmod 3 == 0)) :: List.drop 1 (y2.getD y1.toNat []))).getD y1.toNat []) ++
                                                [D.v (Value.int IntKind.i64 (IntKind.i64.wrap (y0 + 1)))] ++
                                              List.drop 2 ((y2.set y1.toNat (D.v (Value.bool (y0.tmod 3 == 0)) :: List.drop 1 (y2.getD y1.toNat []))).getD y1.toNat []))).getD
                                        y1.toNat []))).getD
                              y1.toNat [])
                            3 &&
                          decide
                            (4 ≤
                              ((((y2.set y1.toNat (D.v (Value.bool (y0.tmod 3 == 0)) :: List.drop 1 (y2.getD y1.toNat []))).set y1.toNat
                                          (List.take 1 ((y2.set y1.toNat (D.v (Value.bool (y0.tmod 3 == 0)) :: List.drop 1 (y2.getD y1.toNat []))).getD y1.toNat []) ++
                                              [D.v (Value.int IntKind.i64 (IntKind.i64.wrap (y0 + 1)))] ++
                                            List.drop 2 ((y2.set y1.toNat (D.v (Value.bool (y0.tmod 3 == 0)) :: List.drop 1 (y2.getD y1.toNat []))).getD y1.toNat []))).set
                                      y1.toNat
                                      (List.take 2
                                            (((y2.set y1.toNat (D.v (Value.bool (y0.tmod 3 == 0)) :: List.drop 1 (y2.getD y1.toNat []))).set y1.toNat
                                                  (List.take 1 ((y2.set y1.toNat (D.v (Value.bool (y0.tmod 3 == 0)) :: List.drop 1 (y2.getD y1.toNat []))).getD y1.toNat []) ++
                                                      [D.v (Value.int IntKind.i64 (IntKind.i64.wrap (y0 + 1)))] ++
                                                    List.drop 2 ((y2.set y1.toNat (D.v (Value.bool (y0.tmod 3 == 0)) :: List.drop 1 (y2.getD y1.toNat []))).getD y1.toNat []))).getD
                                              y1.toNat []) ++
                                          [D.v (Value.string (val.1.getD 0 TC.d).str)] ++
                                        List.drop 3
                                          (((y2.set y1.toNat (D.v (Value.bool (y0.tmod 3 == 0)) :: List.drop 1 (y2.getD y1.toNat []))).set y1.toNat
                                                (List.take 1 ((y2.set y1.toNat (D.v (Value.bool (y0.tmod 3 == 0)) :: List.drop 1 (y2.getD y1.toNat []))).getD y1.toNat []) ++
                                                    [D.v (Value.int IntKind.i64 (IntKind.i64.wrap (y0 + 1)))] ++
                                                  List.drop 2 ((y2.set y1.toNat (D.v (Value.bool (y0.tmod 3 == 0)) :: List.drop 1 (y2.getD y1.toNat []))).getD y1.toNat []))).getD
                                            y1.toNat []))).getD
                                  y1.toNat []).length) then
                      (wmarkStringS [AV.one (A1.r 0 [] 0), AV.one (A1.v (Value.int IntKind.i64 (IntKind.i64.wrap (IntKind.i64.wrap (IntKind.i64.wrap (y0 + 1) + 1) + 1))))]
                            [{ kind := Kind.virt,
                                row :=
                                  [D.s
                                      (((((y2.set y1.toNat (D.v (Value.bool (y0.tmod 3 == 0)) :: List.drop 1 (y2.getD y1.toNat []))).set y1.toNat
                                                      (List.take 1 ((y2.set y1.toNat (D.v (Value.bool (y0.tmod 3 == 0)) :: List.drop 1 (y2.getD y1.toNat []))).getD y1.toNat []) ++
                                                          [D.v (Value.int IntKind.i64 (IntKind.i64.wrap (y0 + 1)))] ++
                                                        List.drop 2 ((y2.set y1.toNat (D.v (Value.bool (y0.tmod 3 == 0)) :: List.drop 1 (y2.getD y1.toNat []))).getD y1.toNat []))).set
                                                  y1.toNat
                                                  (List.take 2
                                                        (((y2.set y1.toNat (D.v (Value.bool (y0.tmod 3 == 0)) :: List.drop 1 (y2.getD y1.toNat []))).set y1.toNat
                                                              (List.take 1 ((y2.set y1.toNat (D.v (Value.bool (y0.tmod 3 == 0)) :: List.drop 1 (y2.getD y1.toNat []))).getD y1.toNat []) ++
                                                                  [D.v (Value.int IntKind.i64 (IntKind.i64.wrap (y0 + 1)))] ++
                                                                List.drop 2 ((y2.set y1.toNat (D.v (Value.bool (y0.tmod 3 == 0)) :: List.drop 1 (y2.getD y1.toNat []))).getD y1.toNat []))).getD
                                                          y1.toNat []) ++
                                                      [D.v (Value.string (val.1.getD 0 TC.d).str)] ++
                                                    List.drop 3
                                                      (((y2.set y1.toNat (D.v (Value.bool (y0.tmod 3 == 0)) :: List.drop 1 (y2.getD y1.toNat []))).set y1.toNat
                                                            (List.take 1 ((y2.set y1.toNat (D.v (Value.bool (y0.tmod 3 == 0)) :: List.drop 1 (y2.getD y1.toNat []))).getD y1.toNat []) ++
                                                                [D.v (Value.int IntKind.i64 (IntKind.i64.wrap (y0 + 1)))] ++
                                                              List.drop 2 ((y2.set y1.toNat (D.v (Value.bool (y0.tmod 3 == 0)) :: List.drop 1 (y2.getD y1.toNat []))).getD y1.toNat []))).getD
                                                        y1.toNat []))).getD
                                              y1.toNat []).getD
                                          3 D.h).es],
                                fl := [Own.deep] }]).bind
                        fun val_1 =>
                        bif
                            fitsCells [R1.int IntKind.i64] val_1.1 &&
                              fitsCos
                                [{
                                    ob :=
                                      { kind := Kind.virt,
                                        row :=
                                          [D.s
                                              (((((y2.set y1.toNat (D.v (Value.bool (y0.tmod 3 == 0)) :: List.drop 1 (y2.getD y1.toNat []))).set y1.toNat
                                                              (List.take 1 ((y2.set y1.toNat (D.v (Value.bool (y0.tmod 3 == 0)) :: List.drop 1 (y2.getD y1.toNat []))).getD y1.toNat []) ++
                                                                  [D.v (Value.int IntKind.i64 (IntKind.i64.wrap (y0 + 1)))] ++
                                                                List.drop 2 ((y2.set y1.toNat (D.v (Value.bool (y0.tmod 3 == 0)) :: List.drop 1 (y2.getD y1.toNat []))).getD y1.toNat []))).set
                                                          y1.toNat
                                                          (List.take 2
                                                                (((y2.set y1.toNat (D.v (Value.bool (y0.tmod 3 == 0)) :: List.drop 1 (y2.getD y1.toNat []))).set y1.toNat
                                                                      (List.take 1 ((y2.set y1.toNat (D.v (Value.bool (y0.tmod 3 == 0)) :: List.drop 1 (y2.getD y1.toNat []))).getD y1.toNat []) ++
                                                                          [D.v (Value.int IntKind.i64 (IntKind.i64.wrap (y0 + 1)))] ++
                                                                        List.drop 2 ((y2.set y1.toNat (D.v (Value.bool (y0.tmod 3 == 0)) :: List.drop 1 (y2.getD y1.toNat []))).getD y1.toNat []))).getD
                                                                  y1.toNat []) ++
                                                              [D.v (Value.string (val.1.getD 0 TC.d).str)] ++
                                                            List.drop 3
                                                              (((y2.set y1.toNat (D.v (Value.bool (y0.tmod 3 == 0)) :: List.drop 1 (y2.getD y1.toNat []))).set y1.toNat
                                                                    (List.take 1 ((y2.set y1.toNat (D.v (Value.bool (y0.tmod 3 == 0)) :: List.drop 1 (y2.getD y1.toNat []))).getD y1.toNat []) ++
                                                                        [D.v (Value.int IntKind.i64 (IntKind.i64.wrap (y0 + 1)))] ++
                                                                      List.drop 2 ((y2.set y1.toNat (D.v (Value.bool (y0.tmod 3 == 0)) :: List.drop 1 (y2.getD y1.toNat []))).getD y1.toNat []))).getD
                                                                y1.toNat []))).getD
                                                      y1.toNat []).getD
                                                  3 D.h).es],
                                        fl := [Own.deep] },
                                    src := Src.sl 0 [(0, y1.toNat)] 3 }]
                                val_1.2 then
                          bif
                              decide (0 ≤ y1) &&
                                  decide
                                    (y1 <
                                      (↑((((y2.set y1.toNat (D.v (Value.bool (y0.tmod 3 == 0)) :: List.drop 1 (y2.getD y1.toNat []))).set y1.toNat
                                                      (List.take 1 ((y2.set y1.toNat (D.v (Value.bool (y0.tmod 3 == 0)) :: List.drop 1 (y2.getD y1.toNat []))).getD y1.toNat []) ++
                                                          [D.v (Value.int IntKind.i64 (IntKind.i64.wrap (y0 + 1)))] ++
                                                        List.drop 2 ((y2.set y1.toNat (D.v (Value.bool (y0.tmod 3 == 0)) :: List.drop 1 (y2.getD y1.toNat []))).getD y1.toNat []))).set
                                                  y1.toNat
                                                  (List.take 2
                                                        (((y2.set y1.toNat (D.v (Value.bool (y0.tmod 3 == 0)) :: List.drop 1 (y2.getD y1.toNat []))).set y1.toNat
                                                              (List.take 1 ((y2.set y1.toNat (D.v (Value.bool (y0.tmod 3 == 0)) :: List.drop 1 (y2.getD y1.toNat []))).getD y1.toNat []) ++
                                                                  [D.v (Value.int IntKind.i64 (IntKind.i64.wrap (y0 + 1)))] ++
                                                                List.drop 2 ((y2.set y1.toNat (D.v (Value.bool (y0.tmod 3 == 0)) :: List.drop 1 (y2.getD y1.toNat []))).getD y1.toNat []))).getD
                                                          y1.toNat []) ++
                                                      [D.v (Value.string (val.1.getD 0 TC.d).str)] ++
                                                    List.drop 3
                                                      (((y2.set y1.toNat (D.v (Value.bool (y0.tmod 3 == 0)) :: List.drop 1 (y2.getD y1.toNat []))).set y1.toNat
                                                            (List.take 1 ((y2.set y1.toNat (D.v (Value.bool (y0.tmod 3 == 0)) :: List.drop 1 (y2.getD y1.toNat []))).getD y1.toNat []) ++
                                                                [D.v (Value.int IntKind.i64 (IntKind.i64.wrap (y0 + 1)))] ++
                                                              List.drop 2 ((y2.set y1.toNat (D.v (Value.bool (y0.tmod 3 == 0)) :: List.drop 1 (y2.getD y1.toNat []))).getD y1.toNat []))).getD
                                                        y1.toNat []))).set
                                              y1.toNat
                                              (((((y2.set y1.toNat (D.v (Value.bool (y0.tmod 3 == 0)) :: List.drop 1 (y2.getD y1.toNat []))).set y1.toNat
                                                            (List.take 1 ((y2.set y1.toNat (D.v (Value.bool (y0.tmod 3 == 0)) :: List.drop 1 (y2.getD y1.toNat []))).getD y1.toNat []) ++
                                                                [D.v (Value.int IntKind.i64 (IntKind.i64.wrap (y0 + 1)))] ++
                                                              List.drop 2 ((y2.set y1.toNat (D.v (Value.bool (y0.tmod 3 == 0)) :: List.drop 1 (y2.getD y1.toNat []))).getD y1.toNat []))).set
                                                        y1.toNat
                                                        (List.take 2
                                                              (((y2.set y1.toNat (D.v (Value.bool (y0.tmod 3 == 0)) :: List.drop 1 (y2.getD y1.toNat []))).set y1.toNat
                                                                    (List.take 1 ((y2.set y1.toNat (D.v (Value.bool (y0.tmod 3 == 0)) :: List.drop 1 (y2.getD y1.toNat []))).getD y1.toNat []) ++
                                                                        [D.v (Value.int IntKind.i64 (IntKind.i64.wrap (y0 + 1)))] ++
                                                                      List.drop 2 ((y2.set y1.toNat (D.v (Value.bool (y0.tmod 3 == 0)) :: List.drop 1 (y2.getD y1.toNat []))).getD y1.toNat []))).getD
                                                                y1.toNat []) ++
                                                            [D.v (Value.string (val.1.getD 0 TC.d).str)] ++
                                                          List.drop 3
                                                            (((y2.set y1.toNat (D.v (Value.bool (y0.tmod 3 == 0)) :: List.drop 1 (y2.getD y1.toNat []))).set y1.toNat
                                                                  (List.take 1 ((y2.set y1.toNat (D.v (Value.bool (y0.tmod 3 == 0)) :: List.drop 1 (y2.getD y1.toNat []))).getD y1.toNat []) ++
                                                                      [D.v (Value.int IntKind.i64 (IntKind.i64.wrap (y0 + 1)))] ++
                                                                    List.drop 2 ((y2.set y1.toNat (D.v (Value.bool (y0.tmod 3 == 0)) :: List.drop 1 (y2.getD y1.toNat []))).getD y1.toNat []))).getD
                                                              y1.toNat []))).getD
                                                    y1.toNat []).set
                                                3 (D.s ((val_1.2.getD 0 { kind := Kind.ro, row := [], fl := [] }).2.getD 0 D.h).es))).length :
                                        Int)) &&
                                decide
                                  ((((((y2.set y1.toNat (D.v (Value.bool (y0.tmod 3 == 0)) :: List.drop 1 (y2.getD y1.toNat []))).set y1.toNat
                                                    (List.take 1 ((y2.set y1.toNat (D.v (Value.bool (y0.tmod 3 == 0)) :: List.drop 1 (y2.getD y1.toNat []))).getD y1.toNat []) ++
                                                        [D.v (Value.int IntKind.i64 (IntKind.i64.wrap (y0 + 1)))] ++
                                                      List.drop 2 ((y2.set y1.toNat (D.v (Value.bool (y0.tmod 3 == 0)) :: List.drop 1 (y2.getD y1.toNat []))).getD y1.toNat []))).set
                                                y1.toNat
                                                (List.take 2
                                                      (((y2.set y1.toNat (D.v (Value.bool (y0.tmod 3 == 0)) :: List.drop 1 (y2.getD y1.toNat []))).set y1.toNat
                                                            (List.take 1 ((y2.set y1.toNat (D.v (Value.bool (y0.tmod 3 == 0)) :: List.drop 1 (y2.getD y1.toNat []))).getD y1.toNat []) ++
                                                                [D.v (Value.int IntKind.i64 (IntKind.i64.wrap (y0 + 1)))] ++
                                                              List.drop 2 ((y2.set y1.toNat (D.v (Value.bool (y0.tmod 3 == 0)) :: List.drop 1 (y2.getD y1.toNat []))).getD y1.toNat []))).getD
                                                        y1.toNat []) ++
                                                    [D.v (Value.string (val.1.getD 0 TC.d).str)] ++
                                                  List.drop 3
                                                    (((y2.set y1.toNat (D.v (Value.bool (y0.tmod 3 == 0)) :: List.drop 1 (y2.getD y1.toNat []))).set y1.toNat
                                                          (List.take 1 ((y2.set y1.toNat (D.v (Value.bool (y0.tmod 3 == 0)) :: List.drop 1 (y2.getD y1.toNat []))).getD y1.toNat []) ++
                                                              [D.v (Value.int IntKind.i64 (IntKind.i64.wrap (y0 + 1)))] ++
                                                            List.drop 2 ((y2.set y1.toNat (D.v (Value.bool (y0.tmod 3 == 0)) :: List.drop 1 (y2.getD y1.toNat []))).getD y1.toNat []))).getD
                                                      y1.toNat []))).set
                                            y1.toNat
                                            (((((y2.set y1.toNat (D.v (Value.bool (y0.tmod 3 == 0)) :: List.drop 1 (y2.getD y1.toNat []))).set y1.toNat
                                                          (List.take 1 ((y2.set y1.toNat (D.v (Value.bool (y0.tmod 3 == 0)) :: List.drop 1 (y2.getD y1.toNat []))).getD y1.toNat []) ++
                                                              [D.v (Value.int IntKind.i64 (IntKind.i64.wrap (y0 + 1)))] ++
                                                            List.drop 2 ((y2.set y1.toNat (D.v (Value.bool (y0.tmod 3 == 0)) :: List.drop 1 (y2.getD y1.toNat []))).getD y1.toNat []))).set
                                                      y1.toNat
                                                      (List.take 2
                                                            (((y2.set y1.toNat (D.v (Value.bool (y0.tmod 3 == 0)) :: List.drop 1 (y2.getD y1.toNat []))).set y1.toNat
                                                                  (List.take 1 ((y2.set y1.toNat (D.v (Value.bool (y0.tmod 3 == 0)) :: List.drop 1 (y2.getD y1.toNat []))).getD y1.toNat []) ++
                                                                      [D.v (Value.int IntKind.i64 (IntKind.i64.wrap (y0 + 1)))] ++
                                                                    List.drop 2 ((y2.set y1.toNat (D.v (Value.bool (y0.tmod 3 == 0)) :: List.drop 1 (y2.getD y1.toNat []))).getD y1.toNat []))).getD
                                                              y1.toNat []) ++
                                                          [D.v (Value.string (val.1.getD 0 TC.d).str)] ++
                                                        List.drop 3
                                                          (((y2.set y1.toNat (D.v (Value.bool (y0.tmod 3 == 0)) :: List.drop 1 (y2.getD y1.toNat []))).set y1.toNat
                                                                (List.take 1 ((y2.set y1.toNat (D.v (Value.bool (y0.tmod 3 == 0)) :: List.drop 1 (y2.getD y1.toNat []))).getD y1.toNat []) ++
                                                                    [D.v (Value.int IntKind.i64 (IntKind.i64.wrap (y0 + 1)))] ++
                                                                  List.drop 2 ((y2.set y1.toNat (D.v (Value.bool (y0.tmod 3 == 0)) :: List.drop 1 (y2.getD y1.toNat []))).getD y1.toNat []))).getD
                                                            y1.toNat []))).getD
                                                  y1.toNat []).set
                                              3 (D.s ((val_1.2.getD 0 { kind := Kind.ro, row := [], fl := [] }).2.getD 0 D.h).es))).getD
                                        y1.toNat []).length =
                                    5) then
                            bif
                                fitsRow [CK.sl]
                                    (((((y2.set y1.toNat (D.v (Value.bool (y0.tmod 3 == 0)) :: List.drop 1 (y2.getD y1.toNat []))).set y1.toNat
                                                  (List.take 1 ((y2.set y1.toNat (D.v (Value.bool (y0.tmod 3 == 0)) :: List.drop 1 (y2.getD y1.toNat []))).getD y1.toNat []) ++
                                                      [D.v (Value.int IntKind.i64 (IntKind.i64.wrap (y0 + 1)))] ++
                                                    List.drop 2 ((y2.set y1.toNat (D.v (Value.bool (y0.tmod 3 == 0)) :: List.drop 1 (y2.getD y1.toNat []))).getD y1.toNat []))).set
                                              y1.toNat
                                              (List.take 2
                                                    (((y2.set y1.toNat (D.v (Value.bool (y0.tmod 3 == 0)) :: List.drop 1 (y2.getD y1.toNat []))).set y1.toNat
                                                          (List.take 1 ((y2.set y1.toNat (D.v (Value.bool (y0.tmod 3 == 0)) :: List.drop 1 (y2.getD y1.toNat []))).getD y1.toNat []) ++
                                                              [D.v (Value.int IntKind.i64 (IntKind.i64.wrap (y0 + 1)))] ++
                                                            List.drop 2 ((y2.set y1.toNat (D.v (Value.bool (y0.tmod 3 == 0)) :: List.drop 1 (y2.getD y1.toNat []))).getD y1.toNat []))).getD
                                                      y1.toNat []) ++
                                                  [D.v (Value.string (val.1.getD 0 TC.d).str)] ++
                                                List.drop 3
                                                  (((y2.set y1.toNat (D.v (Value.bool (y0.tmod 3 == 0)) :: List.drop 1 (y2.getD y1.toNat []))).set y1.toNat
                                                        (List.take 1 ((y2.set y1.toNat (D.v (Value.bool (y0.tmod 3 == 0)) :: List.drop 1 (y2.getD y1.toNat []))).getD y1.toNat []) ++
                                                            [D.v (Value.int IntKind.i64 (IntKind.i64.wrap (y0 + 1)))] ++
                                                          List.drop 2 ((y2.set y1.toNat (D.v (Value.bool (y0.tmod 3 == 0)) :: List.drop 1 (y2.getD y1.toNat []))).getD y1.toNat []))).getD
                                                    y1.toNat []))).set
                                          y1.toNat
                                          (((((y2.set y1.toNat (D.v (Value.bool (y0.tmod 3 == 0)) :: List.drop 1 (y2.getD y1.toNat []))).set y1.toNat
                                                        (List.take 1 ((y2.set y1.toNat (D.v (Value.bool (y0.tmod 3 == 0)) :: List.drop 1 (y2.getD y1.toNat []))).getD y1.toNat []) ++
                                                            [D.v (Value.int IntKind.i64 (IntKind.i64.wrap (y0 + 1)))] ++
                                                          List.drop 2 ((y2.set y1.toNat (D.v (Value.bool (y0.tmod 3 == 0)) :: List.drop 1 (y2.getD y1.toNat []))).getD y1.toNat []))).set
                                                    y1.toNat
                                                    (List.take 2
                                                          (((y2.set y1.toNat (D.v (Value.bool (y0.tmod 3 == 0)) :: List.drop 1 (y2.getD y1.toNat []))).set y1.toNat
                                                                (List.take 1 ((y2.set y1.toNat (D.v (Value.bool (y0.tmod 3 == 0)) :: List.drop 1 (y2.getD y1.toNat []))).getD y1.toNat []) ++
                                                                    [D.v (Value.int IntKind.i64 (IntKind.i64.wrap (y0 + 1)))] ++
                                                                  List.drop 2 ((y2.set y1.toNat (D.v (Value.bool (y0.tmod 3 == 0)) :: List.drop 1 (y2.getD y1.toNat []))).getD y1.toNat []))).getD
                                                            y1.toNat []) ++
                                                        [D.v (Value.string (val.1.getD 0 TC.d).str)] ++
                                                      List.drop 3
                                                        (((y2.set y1.toNat (D.v (Value.bool (y0.tmod 3 == 0)) :: List.drop 1 (y2.getD y1.toNat []))).set y1.toNat
                                                              (List.take 1 ((y2.set y1.toNat (D.v (Value.bool (y0.tmod 3 == 0)) :: List.drop 1 (y2.getD y1.toNat []))).getD y1.toNat []) ++
                                                                  [D.v (Value.int IntKind.i64 (IntKind.i64.wrap (y0 + 1)))] ++
                                                                List.drop 2 ((y2.set y1.toNat (D.v (Value.bool (y0.tmod 3 == 0)) :: List.drop 1 (y2.getD y1.toNat []))).getD y1.toNat []))).getD
                                                          y1.toNat []))).getD
                                                y1.toNat []).set
                                            3 (D.s ((val_1.2.getD 0 { kind := Kind.ro, row := [], fl := [] }).2.getD 0 D.h).es))).getD
                                      y1.toNat [])
                                    4 &&
                                  decide
                                    (5 ≤
                                      (((((y2.set y1.toNat (D.v (Value.bool (y0.tmod 3 == 0)) :: List.drop 1 (y2.getD y1.toNat []))).set y1.toNat
                                                      (List.take 1 ((y2.set y1.toNat (D.v (Value.bool (y0.tmod 3 == 0)) :: List.drop 1 (y2.getD y1.toNat []))).getD y1.toNat []) ++
                                                          [D.v (Value.int IntKind.i64 (IntKind.i64.wrap (y0 + 1)))] ++
                                                        List.drop 2 ((y2.set y1.toNat (D.v (Value.bool (y0.tmod 3 == 0)) :: List.drop 1 (y2.getD y1.toNat []))).getD y1.toNat []))).set
                                                  y1.toNat
                                                  (List.take 2
                                                        (((y2.set y1.toNat (D.v (Value.bool (y0.tmod 3 == 0)) :: List.drop 1 (y2.getD y1.toNat []))).set y1.toNat
                                                              (List.take 1 ((y2.set y1.toNat (D.v (Value.bool (y0.tmod 3 == 0)) :: List.drop 1 (y2.getD y1.toNat []))).getD y1.toNat []) ++
                                                                  [D.v (Value.int IntKind.i64 (IntKind.i64.wrap (y0 + 1)))] ++
                                                                List.drop 2 ((y2.set y1.toNat (D.v (Value.bool (y0.tmod 3 == 0)) :: List.drop 1 (y2.getD y1.toNat []))).getD y1.toNat []))).getD
                                                          y1.toNat []) ++
                                                      [D.v (Value.string (val.1.getD 0 TC.d).str)] ++
                                                    List.drop 3
                                                      (((y2.set y1.toNat (D.v (Value.bool (y0.tmod 3 == 0)) :: List.drop 1 (y2.getD y1.toNat []))).set y1.toNat
                                                            (List.take 1 ((y2.set y1.toNat (D.v (Value.bool (y0.tmod 3 == 0)) :: List.drop 1 (y2.getD y1.toNat []))).getD y1.toNat []) ++
                                                                [D.v (Value.int IntKind.i64 (IntKind.i64.wrap (y0 + 1)))] ++
                                                              List.drop 2 ((y2.set y1.toNat (D.v (Value.bool (y0.tmod 3 == 0)) :: List.drop 1 (y2.getD y1.toNat []))).getD y1.toNat []))).getD
                                                        y1.toNat []))).set
                                              y1.toNat
                                              (((((y2.set y1.toNat (D.v (Value.bool (y0.tmod 3 == 0)) :: List.drop 1 (y2.getD y1.toNat []))).set y1.toNat
                                                            (List.take 1 ((y2.set y1.toNat (D.v (Value.bool (y0.tmod 3 == 0)) :: List.drop 1 (y2.getD y1.toNat []))).getD y1.toNat []) ++
                                                                [D.v (Value.int IntKind.i64 (IntKind.i64.wrap (y0 + 1)))] ++
                                                              List.drop 2 ((y2.set y1.toNat (D.v (Value.bool (y0.tmod 3 == 0)) :: List.drop 1 (y2.getD y1.toNat []))).getD y1.toNat []))).set
                                                        y1.toNat
                                                        (List.take 2
                                                              (((y2.set y1.toNat (D.v (Value.bool (y0.tmod 3 == 0)) :: List.drop 1 (y2.getD y1.toNat []))).set y1.toNat
                                                                    (List.take 1 ((y2.set y1.toNat (D.v (Value.bool (y0.tmod 3 == 0)) :: List.drop 1 (y2.getD y1.toNat []))).getD y1.toNat []) ++
                                                                        [D.v (Value.int IntKind.i64 (IntKind.i64.wrap (y0 + 1)))] ++
                                                                      List.drop 2 ((y2.set y1.toNat (D.v (Value.bool (y0.tmod 3 == 0)) :: List.drop 1 (y2.getD y1.toNat []))).getD y1.toNat []))).getD
                                                                y1.toNat []) ++
                                                            [D.v (Value.string (val.1.getD 0 TC.d).str)] ++
                                                          List.drop 3
                                                            (((y2.set y1.toNat (D.v (Value.bool (y0.tmod 3 == 0)) :: List.drop 1 (y2.getD y1.toNat []))).set y1.toNat
                                                                  (List.take 1 ((y2.set y1.toNat (D.v (Value.bool (y0.tmod 3 == 0)) :: List.drop 1 (y2.getD y1.toNat []))).getD y1.toNat []) ++
                                                                      [D.v (Value.int IntKind.i64 (IntKind.i64.wrap (y0 + 1)))] ++
                                                                    List.drop 2 ((y2.set y1.toNat (D.v (Value.bool (y0.tmod 3 == 0)) :: List.drop 1 (y2.getD y1.toNat []))).getD y1.toNat []))).getD
                                                              y1.toNat []))).getD
                                                    y1.toNat []).set
                                                3 (D.s ((val_1.2.getD 0 { kind := Kind.ro, row := [], fl := [] }).2.getD 0 D.h).es))).getD
                                          y1.toNat []).length) then
                              (wmarkTreeS [AV.one (A1.r 0 [] 0), AV.one (A1.v (Value.int IntKind.i64 (val_1.1.getD 0 TC.d).int))]
                                    [{ kind := Kind.virt,
                                        row :=
                                          [D.s
                                              ((((((y2.set y1.toNat (D.v (Value.bool (y0.tmod 3 == 0)) :: List.drop 1 (y2.getD y1.toNat []))).set y1.toNat
                                                                  (List.take 1 ((y2.set y1.toNat (D.v (Value.bool (y0.tmod 3 == 0)) :: List.drop 1 (y2.getD y1.toNat []))).getD y1.toNat []) ++
                                                                      [D.v (Value.int IntKind.i64 (IntKind.i64.wrap (y0 + 1)))] ++
                                                                    List.drop 2 ((y2.set y1.toNat (D.v (Value.bool (y0.tmod 3 == 0)) :: List.drop 1 (y2.getD y1.toNat []))).getD y1.toNat []))).set
                                                              y1.toNat
                                                              (List.take 2
                                                                    (((y2.set y1.toNat (D.v (Value.bool (y0.tmod 3 == 0)) :: List.drop 1 (y2.getD y1.toNat []))).set y1.toNat
                                                                          (List.take 1 ((y2.set y1.toNat (D.v (Value.bool (y0.tmod 3 == 0)) :: List.drop 1 (y2.getD y1.toNat []))).getD y1.toNat []) ++
                                                                              [D.v (Value.int IntKind.i64 (IntKind.i64.wrap (y0 + 1)))] ++
                                                                            List.drop 2
                                                                              ((y2.set y1.toNat (D.v (Value.bool (y0.tmod 3 == 0)) :: List.drop 1 (y2.getD y1.toNat []))).getD y1.toNat []))).getD
                                                                      y1.toNat []) ++
                                                                  [D.v (Value.string (val.1.getD 0 TC.d).str)] ++
                                                                List.drop 3
                                                                  (((y2.set y1.toNat (D.v (Value.bool (y0.tmod 3 == 0)) :: List.drop 1 (y2.getD y1.toNat []))).set y1.toNat
                                                                        (List.take 1 ((y2.set y1.toNat (D.v (Value.bool (y0.tmod 3 == 0)) :: List.drop 1 (y2.getD y1.toNat []))).getD y1.toNat []) ++
                                                                            [D.v (Value.int IntKind.i64 (IntKind.i64.wrap (y0 + 1)))] ++
                                                                          List.drop 2
                                                                            ((y2.set y1.toNat (D.v (Value.bool (y0.tmod 3 == 0)) :: List.drop 1 (y2.getD y1.toNat []))).getD y1.toNat []))).getD
                                                                    y1.toNat []))).set
                                                          y1.toNat
                                                          (((((y2.set y1.toNat (D.v (Value.bool (y0.tmod 3 == 0)) :: List.drop 1 (y2.getD y1.toNat []))).set y1.toNat
                                                                        (List.take 1 ((y2.set y1.toNat (D.v (Value.bool (y0.tmod 3 == 0)) :: List.drop 1 (y2.getD y1.toNat []))).getD y1.toNat []) ++
                                                                            [D.v (Value.int IntKind.i64 (IntKind.i64.wrap (y0 + 1)))] ++
                                                                          List.drop 2
                                                                            ((y2.set y1.toNat (D.v (Value.bool (y0.tmod 3 == 0)) :: List.drop 1 (y2.getD y1.toNat []))).getD y1.toNat []))).set
                                                                    y1.toNat
                                                                    (List.take 2
                                                                          (((y2.set y1.toNat (D.v (Value.bool (y0.tmod 3 == 0)) :: List.drop 1 (y2.getD y1.toNat []))).set y1.toNat
                                                                                (List.take 1
                                                                                      ((y2.set y1.toNat (D.v (Value.bool (y0.tmod 3 == 0)) :: List.drop 1 (y2.getD y1.toNat []))).getD y1.toNat []) ++
                                                                                    [D.v (Value.int IntKind.i64 (IntKind.i64.wrap (y0 + 1)))] ++
                                                                                  List.drop 2
                                                                                    ((y2.set y1.toNat (D.v (Value.bool (y0.tmod 3 == 0)) :: List.drop 1 (y2.getD y1.toNat []))).getD y1.toNat []))).getD
                                                                            y1.toNat []) ++
                                                                        [D.v (Value.string (val.1.getD 0 TC.d).str)] ++
                                                                      List.drop 3
                                                                        (((y2.set y1.toNat (D.v (Value.bool (y0.tmod 3 == 0)) :: List.drop 1 (y2.getD y1.toNat []))).set y1.toNat
                                                                              (List.take 1
                                                                                    ((y2.set y1.toNat (D.v (Value.bool (y0.tmod 3 == 0)) :: List.drop 1 (y2.getD y1.toNat []))).getD y1.toNat []) ++
                                                                                  [D.v (Value.int IntKind.i64 (IntKind.i64.wrap (y0 + 1)))] ++
                                                                                List.drop 2
                                                                                  ((y2.set y1.toNat (D.v (Value.bool (y0.tmod 3 == 0)) :: List.drop 1 (y2.getD y1.toNat []))).getD y1.toNat []))).getD
                                                                          y1.toNat []))).getD
                                                                y1.toNat []).set
                                                            3 (D.s ((val_1.2.getD 0 { kind := Kind.ro, row := [], fl := [] }).2.getD 0 D.h).es))).getD
                                                      y1.toNat []).getD
                                                  4 D.h).es],
                                        fl := [Own.deep] }]).bind
                                fun val_2 =>
                                bif
                                    fitsCells [R1.int IntKind.i64] val_2.1 &&
                                      fitsCos
                                        [{
                                            ob :=
                                              { kind := Kind.virt,
                                                row :=
                                                  [D.s
                                                      ((((((y2.set y1.toNat (D.v (Value.bool (y0.tmod 3 == 0)) :: List.drop 1 (y2.getD y1.toNat []))).set y1.toNat
                                                                          (List.take 1 ((y2.set y1.toNat (D.v (Value.bool (y0.tmod 3 == 0)) :: List.drop 1 (y2.getD y1.toNat []))).getD y1.toNat []) ++
                                                                              [D.v (Value.int IntKind.i64 (IntKind.i64.wrap (y0 + 1)))] ++
                                                                            List.drop 2
                                                                              ((y2.set y1.toNat (D.v (Value.bool (y0.tmod 3 == 0)) :: List.drop 1 (y2.getD y1.toNat []))).getD y1.toNat []))).set
                                                                      y1.toNat
                                                                      (List.take 2
                                                                            (((y2.set y1.toNat (D.v (Value.bool (y0.tmod 3 == 0)) :: List.drop 1 (y2.getD y1.toNat []))).set y1.toNat
                                                                                  (List.take 1
                                                                                        ((y2.set y1.toNat (D.v (Value.bool (y0.tmod 3 == 0)) :: List.drop 1 (y2.getD y1.toNat []))).getD y1.toNat []) ++
                                                                                      [D.v (Value.int IntKind.i64 (IntKind.i64.wrap (y0 + 1)))] ++
                                                                                    List.drop 2
                                                                                      ((y2.set y1.toNat (D.v (Value.bool (y0.tmod 3 == 0)) :: List.drop 1 (y2.getD y1.toNat []))).getD y1.toNat
                                                                                        []))).getD
                                                                              y1.toNat []) ++
                                                                          [D.v (Value.string (val.1.getD 0 TC.d).str)] ++
                                                                        List.drop 3
                                                                          (((y2.set y1.toNat (D.v (Value.bool (y0.tmod 3 == 0)) :: List.drop 1 (y2.getD y1.toNat []))).set y1.toNat
                                                                                (List.take 1
                                                                                      ((y2.set y1.toNat (D.v (Value.bool (y0.tmod 3 == 0)) :: List.drop 1 (y2.getD y1.toNat []))).getD y1.toNat []) ++
                                                                                    [D.v (Value.int IntKind.i64 (IntKind.i64.wrap (y0 + 1)))] ++
                                                                                  List.drop 2
                                                                                    ((y2.set y1.toNat (D.v (Value.bool (y0.tmod 3 == 0)) :: List.drop 1 (y2.getD y1.toNat []))).getD y1.toNat []))).getD
                                                                            y1.toNat []))).set
                                                                  y1.toNat
                                                                  (((((y2.set y1.toNat (D.v (Value.bool (y0.tmod 3 == 0)) :: List.drop 1 (y2.getD y1.toNat []))).set y1.toNat
                                                                                (List.take 1
                                                                                      ((y2.set y1.toNat (D.v (Value.bool (y0.tmod 3 == 0)) :: List.drop 1 (y2.getD y1.toNat []))).getD y1.toNat []) ++
                                                                                    [D.v (Value.int IntKind.i64 (IntKind.i64.wrap (y0 + 1)))] ++
                                                                                  List.drop 2
                                                                                    ((y2.set y1.toNat (D.v (Value.bool (y0.tmod 3 == 0)) :: List.drop 1 (y2.getD y1.toNat []))).getD y1.toNat []))).set
                                                                            y1.toNat
                                                                            (List.take 2
                                                                                  (((y2.set y1.toNat (D.v (Value.bool (y0.tmod 3 == 0)) :: List.drop 1 (y2.getD y1.toNat []))).set y1.toNat
                                                                                        (List.take 1
                                                                                              ((y2.set y1.toNat (D.v (Value.bool (y0.tmod 3 == 0)) :: List.drop 1 (y2.getD y1.toNat []))).getD y1.toNat
                                                                                                []) ++
                                                                                            [D.v (Value.int IntKind.i64 (IntKind.i64.wrap (y0 + 1)))] ++
                                                                                          List.drop 2
                                                                                            ((y2.set y1.toNat (D.v (Value.bool (y0.tmod 3 == 0)) :: List.drop 1 (y2.getD y1.toNat []))).getD y1.toNat
                                                                                              []))).getD
                                                                                    y1.toNat []) ++
                                                                                [D.v (Value.string (val.1.getD 0 TC.d).str)] ++
                                                                              List.drop 3
                                                                                (((y2.set y1.toNat (D.v (Value.bool (y0.tmod 3 == 0)) :: List.drop 1 (y2.getD y1.toNat []))).set y1.toNat
                                                                                      (List.take 1
                                                                                            ((y2.set y1.toNat (D.v (Value.bool (y0.tmod 3 == 0)) :: List.drop 1 (y2.getD y1.toNat []))).getD y1.toNat
                                                                                              []) ++
                                                                                          [D.v (Value.int IntKind.i64 (IntKind.i64.wrap (y0 + 1)))] ++
                                                                                        List.drop 2
                                                                                          ((y2.set y1.toNat (D.v (Value.bool (y0.tmod 3 == 0)) :: List.drop 1 (y2.getD y1.toNat []))).getD y1.toNat
                                                                                            []))).getD
                                                                                  y1.toNat []))).getD
                                                                        y1.toNat []).set
                                                                    3 (D.s ((val_1.2.getD 0 { kind := Kind.ro, row := [], fl := [] }).2.getD 0 D.h).es))).getD
                                                              y1.toNat []).getD
                                                          4 D.h).es],
                                                fl := [Own.deep] },
                                            src := Src.sl 0 [(0, y1.toNat)] 4 }]
                                        val_2.2 then
                                  wmarkTreeS.L2 (val_2.1.getD 0 TC.d).int (IntKind.i64.wrap (y1 + 1))
                                    (((((y2.set y1.toNat (D.v (Value.bool (y0.tmod 3 == 0)) :: List.drop 1 (y2.getD y1.toNat []))).set y1.toNat
                                                  (List.take 1 ((y2.set y1.toNat (D.v (Value.bool (y0.tmod 3 == 0)) :: List.drop 1 (y2.getD y1.toNat []))).getD y1.toNat []) ++
                                                      [D.v (Value.int IntKind.i64 (IntKind.i64.wrap (y0 + 1)))] ++
                                                    List.drop 2 ((y2.set y1.toNat (D.v (Value.bool (y0.tmod 3 == 0)) :: List.drop 1 (y2.getD y1.toNat []))).getD y1.toNat []))).set
                                              y1.toNat
                                              (List.take 2
                                                    (((y2.set y1.toNat (D.v (Value.bool (y0.tmod 3 == 0)) :: List.drop 1 (y2.getD y1.toNat []))).set y1.toNat
                                                          (List.take 1 ((y2.set y1.toNat (D.v (Value.bool (y0.tmod 3 == 0)) :: List.drop 1 (y2.getD y1.toNat []))).getD y1.toNat []) ++
                                                              [D.v (Value.int IntKind.i64 (IntKind.i64.wrap (y0 + 1)))] ++
                                                            List.drop 2 ((y2.set y1.toNat (D.v (Value.bool (y0.tmod 3 == 0)) :: List.drop 1 (y2.getD y1.toNat []))).getD y1.toNat []))).getD
                                                      y1.toNat []) ++
                                                  [D.v (Value.string (val.1.getD 0 TC.d).str)] ++
                                                List.drop 3
                                                  (((y2.set y1.toNat (D.v (Value.bool (y0.tmod 3 == 0)) :: List.drop 1 (y2.getD y1.toNat []))).set y1.toNat
                                                        (List.take 1 ((y2.set y1.toNat (D.v (Value.bool (y0.tmod 3 == 0)) :: List.drop 1 (y2.getD y1.toNat []))).getD y1.toNat []) ++
                                                            [D.v (Value.int IntKind.i64 (IntKind.i64.wrap (y0 + 1)))] ++
                                                          List.drop 2 ((y2.set y1.toNat (D.v (Value.bool (y0.tmod 3 == 0)) :: List.drop 1 (y2.getD y1.toNat []))).getD y1.toNat []))).getD
                                                    y1.toNat []))).set
                                          y1.toNat
                                          (((((y2.set y1.toNat (D.v (Value.bool (y0.tmod 3 == 0)) :: List.drop 1 (y2.getD y1.toNat []))).set y1.toNat
                                                        (List.take 1 ((y2.set y1.toNat (D.v (Value.bool (y0.tmod 3 == 0)) :: List.drop 1 (y2.getD y1.toNat []))).getD y1.toNat []) ++
                                                            [D.v (Value.int IntKind.i64 (IntKind.i64.wrap (y0 + 1)))] ++
                                                          List.drop 2 ((y2.set y1.toNat (D.v (Value.bool (y0.tmod 3 == 0)) :: List.drop 1 (y2.getD y1.toNat []))).getD y1.toNat []))).set
                                                    y1.toNat
                                                    (List.take 2
                                                          (((y2.set y1.toNat (D.v (Value.bool (y0.tmod 3 == 0)) :: List.drop 1 (y2.getD y1.toNat []))).set y1.toNat
                                                                (List.take 1 ((y2.set y1.toNat (D.v (Value.bool (y0.tmod 3 == 0)) :: List.drop 1 (y2.getD y1.toNat []))).getD y1.toNat []) ++
                                                                    [D.v (Value.int IntKind.i64 (IntKind.i64.wrap (y0 + 1)))] ++
                                                                  List.drop 2 ((y2.set y1.toNat (D.v (Value.bool (y0.tmod 3 == 0)) :: List.drop 1 (y2.getD y1.toNat []))).getD y1.toNat []))).getD
                                                            y1.toNat []) ++
                                                        [D.v (Value.string (val.1.getD 0 TC.d).str)] ++
                                                      List.drop 3
                                                        (((y2.set y1.toNat (D.v (Value.bool (y0.tmod 3 == 0)) :: List.drop 1 (y2.getD y1.toNat []))).set y1.toNat
                                                              (List.take 1 ((y2.set y1.toNat (D.v (Value.bool (y0.tmod 3 == 0)) :: List.drop 1 (y2.getD y1.toNat []))).getD y1.toNat []) ++
                                                                  [D.v (Value.int IntKind.i64 (IntKind.i64.wrap (y0 + 1)))] ++
                                                                List.drop 2 ((y2.set y1.toNat (D.v (Value.bool (y0.tmod 3 == 0)) :: List.drop 1 (y2.getD y1.toNat []))).getD y1.toNat []))).getD
                                                          y1.toNat []))).getD
                                                y1.toNat []).set
                                            3 (D.s ((val_1.2.getD 0 { kind := Kind.ro, row := [], fl := [] }).2.getD 0 D.h).es))).set
                                      y1.toNat
                                      ((((((y2.set y1.toNat (D.v (Value.bool (y0.tmod 3 == 0)) :: List.drop 1 (y2.getD y1.toNat []))).set y1.toNat
                                                        (List.take 1 ((y2.set y1.toNat (D.v (Value.bool (y0.tmod 3 == 0)) :: List.drop 1 (y2.getD y1.toNat []))).getD y1.toNat []) ++
                                                            [D.v (Value.int IntKind.i64 (IntKind.i64.wrap (y0 + 1)))] ++
                                                          List.drop 2 ((y2.set y1.toNat (D.v (Value.bool (y0.tmod 3 == 0)) :: List.drop 1 (y2.getD y1.toNat []))).getD y1.toNat []))).set
                                                    y1.toNat
                                                    (List.take 2
                                                          (((y2.set y1.toNat (D.v (Value.bool (y0.tmod 3 == 0)) :: List.drop 1 (y2.getD y1.toNat []))).set y1.toNat
                                                                (List.take 1 ((y2.set y1.toNat (D.v (Value.bool (y0.tmod 3 == 0)) :: List.drop 1 (y2.getD y1.toNat []))).getD y1.toNat []) ++
                                                                    [D.v (Value.int IntKind.i64 (IntKind.i64.wrap (y0 + 1)))] ++
                                                                  List.drop 2 ((y2.set y1.toNat (D.v (Value.bool (y0.tmod 3 == 0)) :: List.drop 1 (y2.getD y1.toNat []))).getD y1.toNat []))).getD
                                                            y1.toNat []) ++
                                                        [D.v (Value.string (val.1.getD 0 TC.d).str)] ++
                                                      List.drop 3
                                                        (((y2.set y1.toNat (D.v (Value.bool (y0.tmod 3 == 0)) :: List.drop 1 (y2.getD y1.toNat []))).set y1.toNat
                                                              (List.take 1 ((y2.set y1.toNat (D.v (Value.bool (y0.tmod 3 == 0)) :: List.drop 1 (y2.getD y1.toNat []))).getD y1.toNat []) ++
                                                                  [D.v (Value.int IntKind.i64 (IntKind.i64.wrap (y0 + 1)))] ++
                                                                List.drop 2 ((y2.set y1.toNat (D.v (Value.bool (y0.tmod 3 == 0)) :: List.drop 1 (y2.getD y1.toNat []))).getD y1.toNat []))).getD
                                                          y1.toNat []))).set
                                                y1.toNat
                                                (((((y2.set y1.toNat (D.v (Value.bool (y0.tmod 3 == 0)) :: List.drop 1 (y2.getD y1.toNat []))).set y1.toNat
                                                              (List.take 1 ((y2.set y1.toNat (D.v (Value.bool (y0.tmod 3 == 0)) :: List.drop 1 (y2.getD y1.toNat []))).getD y1.toNat []) ++
                                                                  [D.v (Value.int IntKind.i64 (IntKind.i64.wrap (y0 + 1)))] ++
                                                                List.drop 2 ((y2.set y1.toNat (D.v (Value.bool (y0.tmod 3 == 0)) :: List.drop 1 (y2.getD y1.toNat []))).getD y1.toNat []))).set
                                                          y1.toNat
                                                          (List.take 2
                                                                (((y2.set y1.toNat (D.v (Value.bool (y0.tmod 3 == 0)) :: List.drop 1 (y2.getD y1.toNat []))).set y1.toNat
                                                                      (List.take 1 ((y2.set y1.toNat (D.v (Value.bool (y0.tmod 3 == 0)) :: List.drop 1 (y2.getD y1.toNat []))).getD y1.toNat []) ++
                                                                          [D.v (Value.int IntKind.i64 (IntKind.i64.wrap (y0 + 1)))] ++
                                                                        List.drop 2 ((y2.set y1.toNat (D.v (Value.bool (y0.tmod 3 == 0)) :: List.drop 1 (y2.getD y1.toNat []))).getD y1.toNat []))).getD
                                                                  y1.toNat []) ++
                                                              [D.v (Value.string (val.1.getD 0 TC.d).str)] ++
                                                            List.drop 3
                                                              (((y2.set y1.toNat (D.v (Value.bool (y0.tmod 3 == 0)) :: List.drop 1 (y2.getD y1.toNat []))).set y1.toNat
                                                                    (List.take 1 ((y2.set y1.toNat (D.v (Value.bool (y0.tmod 3 == 0)) :: List.drop 1 (y2.getD y1.toNat []))).getD y1.toNat []) ++
                                                                        [D.v (Value.int IntKind.i64 (IntKind.i64.wrap (y0 + 1)))] ++
                                                                      List.drop 2 ((y2.set y1.toNat (D.v (Value.bool (y0.tmod 3 == 0)) :: List.drop 1 (y2.getD y1.toNat []))).getD y1.toNat []))).getD
                                                                y1.toNat []))).getD
                                                      y1.toNat []).set
                                                  3 (D.s ((val_1.2.getD 0 { kind := Kind.ro, row := [], fl := [] }).2.getD 0 D.h).es))).getD
                                            y1.toNat []).set
                                        4 (D.s ((val_2.2.getD 0 { kind := Kind.ro, row := [], fl := [] }).2.getD 0 D.h).es)))
                                else none
                            else none
                          else none
                        else none
                    else none
                  else none
                else none
              else none
            else none
        else none
      else none
    else none
  else none
else some (wmarkTreeS.x2 y0 y2) := by
  refine (lpL_eq (Y := Y) (c := lim' Y) (fn := 45) (rid := 2) (b := bodyAt 2 wmarkTreeS.c) (by kernel_rfl) _).trans ?_
  delta wmarkTreeS.L2 wmarkText wmarkStringS wmarkTreeS wmarkTreeS.x2 XX
  generalize lpL (Y.ctx (lim' Y)) 45 = lp
  generalize lim' Y = call
  kernel_rfl
theorem wmarkTreeS.a2x2 (y0 : Int) (y1 : List (List D)) :
    wmarkTreeS.A2 (wmarkTreeS.x2 y0 y1) =
    some { cells := [TC.v (Value.int IntKind.i64 y0)], objs := [{ kind := Kind.virt, row := [D.s y1], fl := [Own.deep] }] } := by
  delta wmarkTreeS.A2 wmarkTreeS.x2 XX
  generalize lpL (Y.ctx (lim' Y)) 45 = lp
  generalize lim' Y = call
  kernel_rfl


noncomputable def wheldNodeOfS.L2 (y0 : List (List D)) (y1 : Int) (y2 : Int) : Option (Ex × St) := lpL XX 46 (bodyAt 2 wheldNodeOfS.c) (mk 0 31 [(0, AV.one (A1.s y0)), (1, AV.one (A1.v (Value.int IntKind.i64 y1))), (5, AV.one (A1.v (Value.int IntKind.i64 y2)))] [])
noncomputable def wheldNodeOfS.A2 : Ex × St → Option Res := fun r => evA XX 46 (lpL XX 46) 2 wheldNodeOfS.c r.fst r.snd (outE XX 46 Try.f46)
noncomputable def wheldNodeOfS.q2 (y0 : Int) (y1 : Int) : Ex × St := (Ex.ret, mk 0 31 [(1, AV.one (A1.v (Value.int IntKind.i64 y0))), (4, AV.one (A1.v (Value.int IntKind.i64 y1)))] [])
noncomputable def wheldNodeOfS.x2 (y0 : Int) : Ex × St := (Ex.exit 0, mk 0 31 [(1, AV.one (A1.v (Value.int IntKind.i64 y0)))] [])
theorem wheldNodeOfS.e (a0 : List (List D)) (a1 : Int) :
    wheldNodeOfS [AV.one (A1.s a0), AV.one (A1.v (Value.int IntKind.i64 a1))] [] =
    (wheldNodeOfS.L2 a0 a1 0).bind wheldNodeOfS.A2 := by
  refine (wheldNodeOfS.run _ _ (by kernel_rfl)).trans ?_
  delta wheldNodeOfS wheldNodeOfS.L2 wheldNodeOfS.A2 XX
  generalize lpL (Y.ctx (lim' Y)) 46 = lp
  generalize lim' Y = call
  kernel_rfl
theorem wheldNodeOfS.s2 (y0 : List (List D)) (y1 : Int) (y2 : Int) :
    wheldNodeOfS.L2 y0 y1 y2 =
    bif decide (y2 < (↑y0.length : Int)) then
  bif decide (0 ≤ y2) && decide (y2 < (↑y0.length : Int)) && decide ((y0.getD y2.toNat []).length = 2) then
    bif fitsRow [CK.int IntKind.i64] (y0.getD y2.toNat []) 0 && decide (1 ≤ (y0.getD y2.toNat []).length) then
      bif ((y0.getD y2.toNat []).getD 0 D.h).int != y1 then some (wheldNodeOfS.q2 y1 (-1))
      else
        bif decide (0 ≤ y2) && decide (y2 < (↑y0.length : Int)) && decide ((y0.getD y2.toNat []).length = 2) then
          bif fitsRow [CK.sl] (y0.getD y2.toNat []) 1 && decide (2 ≤ (y0.getD y2.toNat []).length) then
            (wheldStringS [AV.one (A1.s ((y0.getD y2.toNat []).getD 1 D.h).es), AV.one (A1.v (Value.int IntKind.i64 (IntKind.i64.wrap (y1 + 1))))] []).bind fun val =>
              bif fitsCells [R1.int IntKind.i64] val.1 && true then
                bif decide ((val.1.getD 0 TC.d).int < 0) then some (wheldNodeOfS.q2 (val.1.getD 0 TC.d).int (-1)) else wheldNodeOfS.L2 y0 (val.1.getD 0 TC.d).int (IntKind.i64.wrap (y2 + 1))
              else none
          else none
        else none
    else none
  else none
else some (wheldNodeOfS.x2 y1) := by
  refine (lpL_eq (Y := Y) (c := lim' Y) (fn := 46) (rid := 2) (b := bodyAt 2 wheldNodeOfS.c) (by kernel_rfl) _).trans ?_
  delta wheldNodeOfS.L2 wheldNodeOfS.q2 wheldStringS wheldNodeOfS.x2 XX
  generalize lpL (Y.ctx (lim' Y)) 46 = lp
  generalize lim' Y = call
  kernel_rfl
theorem wheldNodeOfS.a2q2 (y0 : Int) (y1 : Int) :
    wheldNodeOfS.A2 (wheldNodeOfS.q2 y0 y1) =
    some { cells := [TC.v (Value.int IntKind.i64 y1)], objs := [] } := by
  delta wheldNodeOfS.A2 wheldNodeOfS.q2 XX
  generalize lpL (Y.ctx (lim' Y)) 46 = lp
  generalize lim' Y = call
  kernel_rfl
theorem wheldNodeOfS.a2x2 (y0 : Int) :
    wheldNodeOfS.A2 (wheldNodeOfS.x2 y0) =
    some { cells := [TC.v (Value.int IntKind.i64 y0)], objs := [] } := by
  delta wheldNodeOfS.A2 wheldNodeOfS.x2 XX
  generalize lpL (Y.ctx (lim' Y)) 46 = lp
  generalize lim' Y = call
  kernel_rfl


theorem sl11Same.e (a0 : List (List D)) (a1 : List (List D)) :
    sl11Same [AV.one (A1.s a0), AV.one (A1.s a1)] [] =
    bif (↑a0.length : Int) == (↑a1.length : Int) then
  (sl2Within [AV.one (A1.s a0), AV.one (A1.s a1)] []).bind fun val => bif fitsCells [R1.bool] val.1 && true then some { cells := [TC.v (Value.bool (val.1.getD 0 TC.d).bool)], objs := [] } else none
else some { cells := [TC.v (Value.bool false)], objs := [] } := by
  refine (sl11Same.run _ _ (by kernel_rfl)).trans ?_
  delta sl11Same sl2Within XX
  generalize lpL (Y.ctx (lim' Y)) 47 = lp
  generalize lim' Y = call
  kernel_rfl


noncomputable def slices_EqualFunc_nodes.L4 (y0 : List (List D)) (y1 : List (List D)) (y2 : Int) (y3 : Int) : Option (Ex × St) := lpL XX 48 (bodyAt 4 slices_EqualFunc_SiNodeOf_SSstring_iNodeOf_Sstring.c)
  (mk 0 32 [(1, AV.one (A1.s y0)), (2, AV.f iNodesOk_1.id []), (15, AV.one (A1.s y1)), (16, AV.one (A1.v (Value.int IntKind.i64 y2))), (17, AV.one (A1.v (Value.int IntKind.i64 y3)))] [])
noncomputable def slices_EqualFunc_nodes.A4 : Ex × St → Option Res := fun r => evA XX 48 (lpL XX 48) 4 slices_EqualFunc_SiNodeOf_SSstring_iNodeOf_Sstring.c r.fst r.snd (outE XX 48 Try.f48)
noncomputable def slices_EqualFunc_nodes.q4 (y0 : Bool) : Ex × St := (Ex.ret, mk 0 32 [(6, AV.one (A1.v (Value.bool y0)))] [])
noncomputable def slices_EqualFunc_nodes.x4 : Ex × St := (Ex.exit 0, mk 0 32 [] [])
theorem slices_EqualFunc_nodes.e (a0 : List (List D)) (a1 : List (List D)) :
    slices_EqualFunc_SiNodeOf_SSstring_iNodeOf_Sstring [AV.one (A1.s a0), AV.one (A1.s a1), AV.f iNodesOk_1.id []] [] =
    bif (↑a0.length : Int) != (↑a1.length : Int) then some { cells := [TC.v (Value.bool false)], objs := [] } else (slices_EqualFunc_nodes.L4 a1 a0 (↑a0.length : Int) 0).bind slices_EqualFunc_nodes.A4 := by
  refine (slices_EqualFunc_SiNodeOf_SSstring_iNodeOf_Sstring.run _ _ (by kernel_rfl)).trans ?_
  delta slices_EqualFunc_SiNodeOf_SSstring_iNodeOf_Sstring slices_EqualFunc_nodes.L4 slices_EqualFunc_nodes.A4 iNodesOk_1.id XX
  generalize lpL (Y.ctx (lim' Y)) 48 = lp
  generalize lim' Y = call
  kernel_rfl
theorem slices_EqualFunc_nodes.s4 (y0 : List (List D)) (y1 : List (List D)) (y2 : Int) (y3 : Int) :
    slices_EqualFunc_nodes.L4 y0 y1 y2 y3 =
    bif decide (y3 < y2) then
  bif decide (0 ≤ y3) && decide (y3 < (↑y1.length : Int)) && decide ((y1.getD y3.toNat []).length = 2) then
    bif fitsRow [CK.int IntKind.i64, CK.sl] (y1.getD y3.toNat []) 0 && decide (2 ≤ (y1.getD y3.toNat []).length) then
      bif decide (0 ≤ y3) && decide (y3 < (↑y0.length : Int)) && decide ((y0.getD y3.toNat []).length = 1) then
        bif fitsRow [CK.sl] (y0.getD y3.toNat []) 0 && decide (1 ≤ (y0.getD y3.toNat []).length) then
          (iNodesOk_1 [AV.g [A1.v (Value.int IntKind.i64 ((y1.getD y3.toNat []).getD 0 D.h).int), A1.s ((y1.getD y3.toNat []).getD 1 D.h).es], AV.one (A1.s ((y0.getD y3.toNat []).getD 0 D.h).es)]
                []).bind
            fun val =>
            bif fitsCells [R1.bool] val.1 && true then bif !(val.1.getD 0 TC.d).bool then some (slices_EqualFunc_nodes.q4 false) else slices_EqualFunc_nodes.L4 y0 y1 y2 (IntKind.i64.wrap (y3 + 1))
            else none
        else none
      else none
    else none
  else none
else some slices_EqualFunc_nodes.x4 := by
  refine (lpL_eq (Y := Y) (c := lim' Y) (fn := 48) (rid := 4) (b := bodyAt 4 slices_EqualFunc_SiNodeOf_SSstring_iNodeOf_Sstring.c) (by kernel_rfl) _).trans ?_
  delta slices_EqualFunc_nodes.L4 iNodesOk_1 slices_EqualFunc_nodes.q4 slices_EqualFunc_nodes.x4 XX
  generalize lpL (Y.ctx (lim' Y)) 48 = lp
  generalize lim' Y = call
  kernel_rfl
theorem slices_EqualFunc_nodes.a4q4 (y0 : Bool) :
    slices_EqualFunc_nodes.A4 (slices_EqualFunc_nodes.q4 y0) =
    some { cells := [TC.v (Value.bool y0)], objs := [] } := by
  delta slices_EqualFunc_nodes.A4 slices_EqualFunc_nodes.q4 XX
  generalize lpL (Y.ctx (lim' Y)) 48 = lp
  generalize lim' Y = call
  kernel_rfl
theorem slices_EqualFunc_nodes.a4x4 :
    slices_EqualFunc_nodes.A4 slices_EqualFunc_nodes.x4 =
    some { cells := [TC.v (Value.bool true)], objs := [] } := by
  delta slices_EqualFunc_nodes.A4 slices_EqualFunc_nodes.x4 XX
  generalize lpL (Y.ctx (lim' Y)) 48 = lp
  generalize lim' Y = call
  kernel_rfl


theorem iNodesOk_1.e (a0 : Int) (a1 : List (List D)) (a2 : List (List D)) :
    iNodesOk_1 [AV.g [A1.v (Value.int IntKind.i64 a0), A1.s a1], AV.one (A1.s a2)] [] =
    (slices_Equal_Sstring_string [AV.one (A1.s a1), AV.one (A1.s a2)] []).bind fun val =>
  bif fitsCells [R1.bool] val.1 && true then some { cells := [TC.v (Value.bool (val.1.getD 0 TC.d).bool)], objs := [] } else none := by
  refine (iNodesOk_1.run _ _ (by kernel_rfl)).trans ?_
  delta iNodesOk_1 slices_Equal_Sstring_string XX
  generalize lpL (Y.ctx (lim' Y)) 49 = lp
  generalize lim' Y = call
  kernel_rfl


theorem wszNodeOf.e (a0 : Int) (a1 : List (List D)) (a2 : Int) :
    wszNodeOf [AV.g [A1.v (Value.int IntKind.i64 a0), A1.s a1], AV.one (A1.v (Value.int IntKind.i64 a2))] [] =
    (wszStringS [AV.one (A1.s a1), AV.one (A1.v (Value.int IntKind.i64 a2))] []).bind fun val =>
  bif fitsCells [R1.int IntKind.i64] val.1 && true then
    bif decide ((val.1.getD 0 TC.d).int < 0) then some { cells := [TC.v (Value.int IntKind.i64 (-1))], objs := [] }
    else some { cells := [TC.v (Value.int IntKind.i64 (val.1.getD 0 TC.d).int)], objs := [] }
  else none := by
  refine (wszNodeOf.run _ _ (by kernel_rfl)).trans ?_
  delta wszNodeOf wszStringS XX
  generalize lpL (Y.ctx (lim' Y)) 50 = lp
  generalize lim' Y = call
  kernel_rfl


theorem sl1In.e (a0 : Int) (a1 : Int) (a2 : Int) :
    sl1In [AV.one (A1.v (Value.int IntKind.i64 a0)), AV.one (A1.v (Value.int IntKind.i64 a1)), AV.one (A1.v (Value.int IntKind.i64 a2))] [] =
    bif decide (a0 ≥ a1) then some { cells := [TC.v (Value.bool (decide (a0 ≤ a2)))], objs := [] } else some { cells := [TC.v (Value.bool false)], objs := [] } := by
  refine (sl1In.run _ _ (by kernel_rfl)).trans ?_
  delta sl1In XX
  generalize lpL (Y.ctx (lim' Y)) 51 = lp
  generalize lim' Y = call
  kernel_rfl


noncomputable def sl2PathOk.L2 (y0 : List (List D)) (y1 : Int) : Option (Ex × St) := lpL XX 52 (bodyAt 2 sl2PathOk.c) (mk 0 19 [(0, AV.one (A1.s y0)), (3, AV.one (A1.v (Value.int IntKind.i64 y1)))] [])
noncomputable def sl2PathOk.A2 : Ex × St → Option Res := fun r => evA XX 52 (lpL XX 52) 2 sl2PathOk.c r.fst r.snd (outE XX 52 Try.f52)
noncomputable def sl2PathOk.q2 (y0 : List (List D)) (y1 : Bool) : Ex × St := (Ex.ret, mk 0 19 [(0, AV.one (A1.s y0)), (2, AV.one (A1.v (Value.bool y1)))] [])
noncomputable def sl2PathOk.x2 (y0 : List (List D)) : Ex × St := (Ex.exit 0, mk 0 19 [(0, AV.one (A1.s y0))] [])
theorem sl2PathOk.e (a0 : List (List D)) :
    sl2PathOk [AV.one (A1.s a0)] [] =
    (sl2PathOk.L2 a0 0).bind sl2PathOk.A2 := by
  refine (sl2PathOk.run _ _ (by kernel_rfl)).trans ?_
  delta sl2PathOk sl2PathOk.L2 sl2PathOk.A2 XX
  generalize lpL (Y.ctx (lim' Y)) 52 = lp
  generalize lim' Y = call
  kernel_rfl
theorem sl2PathOk.s2 (y0 : List (List D)) (y1 : Int) :
    sl2PathOk.L2 y0 y1 =
    bif decide (y1 < (↑y0.length : Int)) then
  bif decide (0 ≤ y1) && decide (y1 < (↑y0.length : Int)) && decide ((y0.getD y1.toNat []).length = 1) then
    bif fitsRow [CK.str] (y0.getD y1.toNat []) 0 && decide (1 ≤ (y0.getD y1.toNat []).length) then
      (sl1NameOk [AV.one (A1.v (Value.string ((y0.getD y1.toNat []).getD 0 D.h).str))] []).bind fun val =>
        bif fitsCells [R1.bool] val.1 && true then bif !(val.1.getD 0 TC.d).bool then some (sl2PathOk.q2 y0 false) else sl2PathOk.L2 y0 (IntKind.i64.wrap (y1 + 1)) else none
    else none
  else none
else some (sl2PathOk.x2 y0) := by
  refine (lpL_eq (Y := Y) (c := lim' Y) (fn := 52) (rid := 2) (b := bodyAt 2 sl2PathOk.c) (by kernel_rfl) _).trans ?_
  delta sl2PathOk.L2 sl1NameOk sl2PathOk.q2 sl2PathOk.x2 XX
  generalize lpL (Y.ctx (lim' Y)) 52 = lp
  generalize lim' Y = call
  kernel_rfl
theorem sl2PathOk.a2q2 (y0 : List (List D)) (y1 : Bool) :
    sl2PathOk.A2 (sl2PathOk.q2 y0 y1) =
    some { cells := [TC.v (Value.bool y1)], objs := [] } := by
  delta sl2PathOk.A2 sl2PathOk.q2 XX
  generalize lpL (Y.ctx (lim' Y)) 52 = lp
  generalize lim' Y = call
  kernel_rfl
theorem sl2PathOk.a2x2 (y0 : List (List D)) :
    sl2PathOk.A2 (sl2PathOk.x2 y0) =
    (sl1In [AV.one (A1.v (Value.int IntKind.i64 (↑y0.length : Int))), AV.one (A1.v (Value.int IntKind.i64 1)), AV.one (A1.v (Value.int IntKind.i64 4))] []).bind fun val =>
  bif fitsCells [R1.bool] val.1 && true then some { cells := [TC.v (Value.bool (val.1.getD 0 TC.d).bool)], objs := [] } else none := by
  delta sl2PathOk.A2 sl2PathOk.x2 sl1In XX
  generalize lpL (Y.ctx (lim' Y)) 52 = lp
  generalize lim' Y = call
  kernel_rfl


noncomputable def sl11Less.L2 (y0 : List (List D)) (y1 : List (List D)) (y2 : Int) : Option (Ex × St) := lpL XX 53 (bodyAt 2 sl11Less.c) (mk 0 41 [(0, AV.one (A1.s y0)), (1, AV.one (A1.s y1)), (5, AV.one (A1.v (Value.int IntKind.i64 y2)))] [])
noncomputable def sl11Less.A2 : Ex × St → Option Res := fun r => evA XX 53 (lpL XX 53) 2 sl11Less.c r.fst r.snd (outE XX 53 Try.f53)
noncomputable def sl11Less.q2 (y0 : List (List D)) (y1 : List (List D)) (y2 : Bool) : Ex × St := (Ex.ret, mk 0 41 [(0, AV.one (A1.s y0)), (1, AV.one (A1.s y1)), (4, AV.one (A1.v (Value.bool y2)))] [])
noncomputable def sl11Less.x2 (y0 : List (List D)) (y1 : List (List D)) : Ex × St := (Ex.exit 0, mk 0 41 [(0, AV.one (A1.s y0)), (1, AV.one (A1.s y1))] [])
theorem sl11Less.e (a0 : List (List D)) (a1 : List (List D)) :
    sl11Less [AV.one (A1.s a0), AV.one (A1.s a1)] [] =
    (sl11Less.L2 a0 a1 0).bind sl11Less.A2 := by
  refine (sl11Less.run _ _ (by kernel_rfl)).trans ?_
  delta sl11Less sl11Less.L2 sl11Less.A2 XX
  generalize lpL (Y.ctx (lim' Y)) 53 = lp
  generalize lim' Y = call
  kernel_rfl
theorem sl11Less.s2 (y0 : List (List D)) (y1 : List (List D)) (y2 : Int) :
    sl11Less.L2 y0 y1 y2 =
    bif decide (y2 < (↑y0.length : Int)) then
  bif decide (y2 < (↑y1.length : Int)) then
    bif decide (0 ≤ y2) && decide (y2 < (↑y0.length : Int)) && decide ((y0.getD y2.toNat []).length = 1) then
      bif fitsRow [CK.str] (y0.getD y2.toNat []) 0 && decide (1 ≤ (y0.getD y2.toNat []).length) then
        bif decide (0 ≤ y2) && decide (y2 < (↑y1.length : Int)) && decide ((y1.getD y2.toNat []).length = 1) then
          bif fitsRow [CK.str] (y1.getD y2.toNat []) 0 && decide (1 ≤ (y1.getD y2.toNat []).length) then
            bif !((y0.getD y2.toNat []).getD 0 D.h).str.toList == ((y1.getD y2.toNat []).getD 0 D.h).str.toList then
              bif decide (0 ≤ y2) && decide (y2 < (↑y0.length : Int)) && decide ((y0.getD y2.toNat []).length = 1) then
                bif fitsRow [CK.str] (y0.getD y2.toNat []) 0 && decide (1 ≤ (y0.getD y2.toNat []).length) then
                  bif decide (0 ≤ y2) && decide (y2 < (↑y1.length : Int)) && decide ((y1.getD y2.toNat []).length = 1) then
                    bif fitsRow [CK.str] (y1.getD y2.toNat []) 0 && decide (1 ≤ (y1.getD y2.toNat []).length) then
                      some (sl11Less.q2 y0 y1 (Op.bytesLess ((y0.getD y2.toNat []).getD 0 D.h).str.toList ((y1.getD y2.toNat []).getD 0 D.h).str.toList))
                    else none
                  else none
                else none
              else none
            else sl11Less.L2 y0 y1 (IntKind.i64.wrap (y2 + 1))
          else none
        else none
      else none
    else none
  else some (sl11Less.x2 y0 y1)
else some (sl11Less.x2 y0 y1) := by
  refine (lpL_eq (Y := Y) (c := lim' Y) (fn := 53) (rid := 2) (b := bodyAt 2 sl11Less.c) (by kernel_rfl) _).trans ?_
  delta sl11Less.L2 sl11Less.q2 sl11Less.x2 XX
  generalize lpL (Y.ctx (lim' Y)) 53 = lp
  generalize lim' Y = call
  kernel_rfl
theorem sl11Less.a2q2 (y0 : List (List D)) (y1 : List (List D)) (y2 : Bool) :
    sl11Less.A2 (sl11Less.q2 y0 y1 y2) =
    some { cells := [TC.v (Value.bool y2)], objs := [] } := by
  delta sl11Less.A2 sl11Less.q2 XX
  generalize lpL (Y.ctx (lim' Y)) 53 = lp
  generalize lim' Y = call
  kernel_rfl
theorem sl11Less.a2x2 (y0 : List (List D)) (y1 : List (List D)) :
    sl11Less.A2 (sl11Less.x2 y0 y1) =
    some { cells := [TC.v (Value.bool (decide ((↑y0.length : Int) < (↑y1.length : Int))))], objs := [] } := by
  delta sl11Less.A2 sl11Less.x2 XX
  generalize lpL (Y.ctx (lim' Y)) 53 = lp
  generalize lim' Y = call
  kernel_rfl


theorem wtoNodeOf.e (a0 : Int) (a1 : List (List D)) :
    wtoNodeOf [AV.g [A1.v (Value.int IntKind.i64 a0), A1.s a1]] [] =
    (wtoStringS [AV.one (A1.s a1)] []).bind fun val =>
  bif fitsCells [R1.own Own.deep] val.1 && true then some { cells := [TC.v (Value.int IntKind.i64 a0), TC.o Own.deep (val.1.getD 0 TC.d).es], objs := [] } else none := by
  refine (wtoNodeOf.run _ _ (by kernel_rfl)).trans ?_
  delta wtoNodeOf wtoStringS XX
  generalize lpL (Y.ctx (lim' Y)) 54 = lp
  generalize lim' Y = call
  kernel_rfl


noncomputable def inamesOk.L2 (y0 : List (List D)) (y1 : Int) (y2 : List (List D)) (y3 : Int) (y4 : Int) : Option (Ex × St) := lpL XX 55 (bodyAt 2 inamesOk.c)
  (mk 0 21 [(0, AV.one (A1.s y0)), (1, AV.one (A1.v (Value.int IntKind.i64 y1))), (7, AV.one (A1.s y2)), (8, AV.one (A1.v (Value.int IntKind.i64 y3))), (9, AV.one (A1.v (Value.int IntKind.i64 y4)))]
    [])
noncomputable def inamesOk.A2 : Ex × St → Option Res := fun r => evA XX 55 (lpL XX 55) 2 inamesOk.c r.fst r.snd (outE XX 55 Try.f55)
noncomputable def inamesOk.q2 (y0 : List (List D)) (y1 : Int) (y2 : Bool) : Ex × St := (Ex.ret, mk 0 21 [(0, AV.one (A1.s y0)), (1, AV.one (A1.v (Value.int IntKind.i64 y1))), (4, AV.one (A1.v (Value.bool y2)))] [])
noncomputable def inamesOk.x2 (y0 : List (List D)) (y1 : Int) : Ex × St := (Ex.exit 0, mk 0 21 [(0, AV.one (A1.s y0)), (1, AV.one (A1.v (Value.int IntKind.i64 y1)))] [])
theorem inamesOk.e (a0 : List (List D)) (a1 : Int) :
    inamesOk [AV.one (A1.s a0), AV.one (A1.v (Value.int IntKind.i64 a1))] [] =
    (inamesOk.L2 a0 a1 a0 (↑a0.length : Int) 0).bind inamesOk.A2 := by
  refine (inamesOk.run _ _ (by kernel_rfl)).trans ?_
  delta inamesOk inamesOk.L2 inamesOk.A2 XX
  generalize lpL (Y.ctx (lim' Y)) 55 = lp
  generalize lim' Y = call
  kernel_rfl
theorem inamesOk.s2 (y0 : List (List D)) (y1 : Int) (y2 : List (List D)) (y3 : Int) (y4 : Int) :
    inamesOk.L2 y0 y1 y2 y3 y4 =
    bif decide (y4 < y3) then
  bif decide (0 ≤ y4) && decide (y4 < (↑y2.length : Int)) && decide ((y2.getD y4.toNat []).length = 1) then
    bif fitsRow [CK.str] (y2.getD y4.toNat []) 0 && decide (1 ≤ (y2.getD y4.toNat []).length) then
      (inameOk [AV.one (A1.v (Value.string ((y2.getD y4.toNat []).getD 0 D.h).str))] []).bind fun val =>
        bif fitsCells [R1.bool] val.1 && true then bif !(val.1.getD 0 TC.d).bool then some (inamesOk.q2 y0 y1 false) else inamesOk.L2 y0 y1 y2 y3 (IntKind.i64.wrap (y4 + 1)) else none
    else none
  else none
else some (inamesOk.x2 y0 y1) := by
  refine (lpL_eq (Y := Y) (c := lim' Y) (fn := 55) (rid := 2) (b := bodyAt 2 inamesOk.c) (by kernel_rfl) _).trans ?_
  delta inamesOk.L2 inameOk inamesOk.q2 inamesOk.x2 XX
  generalize lpL (Y.ctx (lim' Y)) 55 = lp
  generalize lim' Y = call
  kernel_rfl
theorem inamesOk.a2q2 (y0 : List (List D)) (y1 : Int) (y2 : Bool) :
    inamesOk.A2 (inamesOk.q2 y0 y1 y2) =
    some { cells := [TC.v (Value.bool y2)], objs := [] } := by
  delta inamesOk.A2 inamesOk.q2 XX
  generalize lpL (Y.ctx (lim' Y)) 55 = lp
  generalize lim' Y = call
  kernel_rfl
theorem inamesOk.a2x2 (y0 : List (List D)) (y1 : Int) :
    inamesOk.A2 (inamesOk.x2 y0 y1) =
    (iwithin [AV.one (A1.v (Value.int IntKind.i64 (↑y0.length : Int))), AV.one (A1.v (Value.int IntKind.i64 y1)), AV.one (A1.v (Value.int IntKind.i64 4))] []).bind fun val =>
  bif fitsCells [R1.bool] val.1 && true then some { cells := [TC.v (Value.bool (val.1.getD 0 TC.d).bool)], objs := [] } else none := by
  delta inamesOk.A2 inamesOk.x2 iwithin XX
  generalize lpL (Y.ctx (lim' Y)) 55 = lp
  generalize lim' Y = call
  kernel_rfl


noncomputable def slices_Compare_Sstring_string.L2 (y0 : List (List D)) (y1 : List (List D)) (y2 : List (List D)) (y3 : Int) (y4 : Int) : Option (Ex × St) := lpL XX 56 (bodyAt 2 slices_Compare_Sstring_string.c)
  (mk 0 36 [(0, AV.one (A1.s y0)), (1, AV.one (A1.s y1)), (9, AV.one (A1.s y2)), (10, AV.one (A1.v (Value.int IntKind.i64 y3))), (11, AV.one (A1.v (Value.int IntKind.i64 y4)))] [])
noncomputable def slices_Compare_Sstring_string.A2 : Ex × St → Option Res := fun r => evA XX 56 (lpL XX 56) 2 slices_Compare_Sstring_string.c r.fst r.snd (outE XX 56 Try.f56)
noncomputable def slices_Compare_Sstring_string.q2 (y0 : List (List D)) (y1 : List (List D)) (y2 : Int) : Ex × St := (Ex.ret, mk 0 36 [(0, AV.one (A1.s y0)), (1, AV.one (A1.s y1)), (4, AV.one (A1.v (Value.int IntKind.i64 y2)))] [])
noncomputable def slices_Compare_Sstring_string.x2 (y0 : List (List D)) (y1 : List (List D)) : Ex × St := (Ex.exit 0, mk 0 36 [(0, AV.one (A1.s y0)), (1, AV.one (A1.s y1))] [])
theorem slices_Compare_Sstring_string.e (a0 : List (List D)) (a1 : List (List D)) :
    slices_Compare_Sstring_string [AV.one (A1.s a0), AV.one (A1.s a1)] [] =
    (slices_Compare_Sstring_string.L2 a0 a1 a0 (↑a0.length : Int) 0).bind slices_Compare_Sstring_string.A2 := by
  refine (slices_Compare_Sstring_string.run _ _ (by kernel_rfl)).trans ?_
  delta slices_Compare_Sstring_string slices_Compare_Sstring_string.L2 slices_Compare_Sstring_string.A2 XX
  generalize lpL (Y.ctx (lim' Y)) 56 = lp
  generalize lim' Y = call
  kernel_rfl
theorem slices_Compare_Sstring_string.s2 (y0 : List (List D)) (y1 : List (List D)) (y2 : List (List D)) (y3 : Int) (y4 : Int) :
    slices_Compare_Sstring_string.L2 y0 y1 y2 y3 y4 =
    bif decide (y4 < y3) then
  bif decide (0 ≤ y4) && decide (y4 < (↑y2.length : Int)) && decide ((y2.getD y4.toNat []).length = 1) then
    bif fitsRow [CK.str] (y2.getD y4.toNat []) 0 && decide (1 ≤ (y2.getD y4.toNat []).length) then
      bif decide (y4 ≥ (↑y1.length : Int)) then some (slices_Compare_Sstring_string.q2 y0 y1 1)
      else
        bif decide (0 ≤ y4) && decide (y4 < (↑y1.length : Int)) && decide ((y1.getD y4.toNat []).length = 1) then
          bif fitsRow [CK.str] (y1.getD y4.toNat []) 0 && decide (1 ≤ (y1.getD y4.toNat []).length) then
            (cmp_Compare_string [AV.one (A1.v (Value.string ((y2.getD y4.toNat []).getD 0 D.h).str)), AV.one (A1.v (Value.string ((y1.getD y4.toNat []).getD 0 D.h).str))] []).bind fun val =>
              bif fitsCells [R1.int IntKind.i64] val.1 && true then
                bif (val.1.getD 0 TC.d).int != 0 then some (slices_Compare_Sstring_string.q2 y0 y1 (val.1.getD 0 TC.d).int)
                else slices_Compare_Sstring_string.L2 y0 y1 y2 y3 (IntKind.i64.wrap (y4 + 1))
              else none
          else none
        else none
    else none
  else none
else some (slices_Compare_Sstring_string.x2 y0 y1) := by
  refine (lpL_eq (Y := Y) (c := lim' Y) (fn := 56) (rid := 2) (b := bodyAt 2 slices_Compare_Sstring_string.c) (by kernel_rfl) _).trans ?_
  delta slices_Compare_Sstring_string.L2 slices_Compare_Sstring_string.q2 cmp_Compare_string slices_Compare_Sstring_string.x2 XX
  generalize lpL (Y.ctx (lim' Y)) 56 = lp
  generalize lim' Y = call
  kernel_rfl
theorem slices_Compare_Sstring_string.a2q2 (y0 : List (List D)) (y1 : List (List D)) (y2 : Int) :
    slices_Compare_Sstring_string.A2 (slices_Compare_Sstring_string.q2 y0 y1 y2) =
    some { cells := [TC.v (Value.int IntKind.i64 y2)], objs := [] } := by
  delta slices_Compare_Sstring_string.A2 slices_Compare_Sstring_string.q2 XX
  generalize lpL (Y.ctx (lim' Y)) 56 = lp
  generalize lim' Y = call
  kernel_rfl
theorem slices_Compare_Sstring_string.a2x2 (y0 : List (List D)) (y1 : List (List D)) :
    slices_Compare_Sstring_string.A2 (slices_Compare_Sstring_string.x2 y0 y1) =
    bif decide ((↑y0.length : Int) < (↑y1.length : Int)) then some { cells := [TC.v (Value.int IntKind.i64 (-1))], objs := [] } else some { cells := [TC.v (Value.int IntKind.i64 0)], objs := [] } := by
  delta slices_Compare_Sstring_string.A2 slices_Compare_Sstring_string.x2 XX
  generalize lpL (Y.ctx (lim' Y)) 56 = lp
  generalize lim' Y = call
  kernel_rfl


theorem iwithin.e (a0 : Int) (a1 : Int) (a2 : Int) :
    iwithin [AV.one (A1.v (Value.int IntKind.i64 a0)), AV.one (A1.v (Value.int IntKind.i64 a1)), AV.one (A1.v (Value.int IntKind.i64 a2))] [] =
    bif decide (a0 ≥ a1) then some { cells := [TC.v (Value.bool (decide (a0 ≤ a2)))], objs := [] } else some { cells := [TC.v (Value.bool false)], objs := [] } := by
  refine (iwithin.run _ _ (by kernel_rfl)).trans ?_
  delta iwithin XX
  generalize lpL (Y.ctx (lim' Y)) 57 = lp
  generalize lim' Y = call
  kernel_rfl


theorem weqNodeOf.e (a0 : Int) (a1 : List (List D)) (a2 : Int) (a3 : List (List D)) :
    weqNodeOf [AV.g [A1.v (Value.int IntKind.i64 a0), A1.s a1], AV.g [A1.v (Value.int IntKind.i64 a2), A1.s a3]] [] =
    bif a0 != a2 then some { cells := [TC.v (Value.bool false)], objs := [] }
else
  (weqStringS [AV.one (A1.s a1), AV.one (A1.s a3)] []).bind fun val =>
    bif fitsCells [R1.bool] val.1 && true then bif !(val.1.getD 0 TC.d).bool then some { cells := [TC.v (Value.bool false)], objs := [] } else some { cells := [TC.v (Value.bool true)], objs := [] }
    else none := by
  refine (weqNodeOf.run _ _ (by kernel_rfl)).trans ?_
  delta weqNodeOf weqStringS XX
  generalize lpL (Y.ctx (lim' Y)) 58 = lp
  generalize lim' Y = call
  kernel_rfl


noncomputable def sl1Parts.L4 (y0 : Int) (y1 : Int) (y2 : Bool) (y3 : Int) (y4 : ByteArray) (y5 : List (List D)) (y6 : List (List D)) : Option (Ex × St) := lpL XX 59 (bodyAt 4 sl1Parts.c)
  (mk 0 29 [(1, AV.one (A1.v (Value.int IntKind.i64 y0))), (2, AV.one (A1.p true 2 [] 0)), (5, AV.one (A1.v (Value.int IntKind.i64 y1)))]
    [(2, some { kind := Kind.box, row := [D.v (Value.bool y2), D.v (Value.int IntKind.i64 y3), D.v (Value.string y4), D.s y5, D.s y6], fl := [Own.deep, Own.deep, Own.deep, Own.sh, Own.sh] })])
noncomputable def sl1Parts.A4 : Ex × St → Option Res := fun r => evA XX 59 (lpL XX 59) 4 sl1Parts.c r.fst r.snd (outE XX 59 Try.f59)
noncomputable def sl1Parts.q4 (y0 : Bool) : Ex × St := (Ex.ret, mk 0 29 [(4, AV.one (A1.v (Value.bool y0)))] [])
noncomputable def sl1Parts.x4 : Ex × St := (Ex.exit 0, mk 0 29 [] [])
theorem sl1Parts.e (a0 : Bool) (a1 : Int) (a2 : ByteArray) (a3 : List (List D)) (a4 : List (List D)) (a5 : Int) :
    sl1Parts [AV.g [A1.v (Value.bool a0), A1.v (Value.int IntKind.i64 a1), A1.v (Value.string a2), A1.s a3, A1.s a4], AV.one (A1.v (Value.int IntKind.i64 a5))] [] =
    (sl1Plain [AV.g [A1.v (Value.bool a0), A1.v (Value.int IntKind.i64 a1), A1.v (Value.string a2), A1.s a3, A1.s a4]] []).bind fun val =>
  bif fitsCells [R1.bool] val.1 && true then
    bif !(val.1.getD 0 TC.d).bool then some { cells := [TC.v (Value.bool false)], objs := [] }
    else bif decide (a5 > 4) then some { cells := [TC.v (Value.bool false)], objs := [] } else (sl1Parts.L4 a5 0 a0 a1 a2 a3 a4).bind sl1Parts.A4
  else none := by
  refine (sl1Parts.run _ _ (by kernel_rfl)).trans ?_
  delta sl1Parts sl1Plain sl1Parts.L4 sl1Parts.A4 XX
  generalize lpL (Y.ctx (lim' Y)) 59 = lp
  generalize lim' Y = call
  kernel_rfl
theorem sl1Parts.s4 (y0 : Int) (y1 : Int) (y2 : Bool) (y3 : Int) (y4 : ByteArray) (y5 : List (List D)) (y6 : List (List D)) :
    sl1Parts.L4 y0 y1 y2 y3 y4 y5 y6 =
    bif decide (y1 < (↑y6.length : Int)) then
  bif decide (0 ≤ y1) && decide (y1 < (↑y6.length : Int)) && decide ((y6.getD y1.toNat []).length = 5) then
    bif fitsRow [CK.bool, CK.int IntKind.i64, CK.str, CK.sl, CK.sl] (y6.getD y1.toNat []) 0 && decide (5 ≤ (y6.getD y1.toNat []).length) then
      (sl1Parts
            [AV.g
                [A1.v (Value.bool ((y6.getD y1.toNat []).getD 0 D.h).bool), A1.v (Value.int IntKind.i64 ((y6.getD y1.toNat []).getD 1 D.h).int),
                  A1.v (Value.string ((y6.getD y1.toNat []).getD 2 D.h).str), A1.s ((y6.getD y1.toNat []).getD 3 D.h).es, A1.s ((y6.getD y1.toNat []).getD 4 D.h).es],
              AV.one (A1.v (Value.int IntKind.i64 (IntKind.i64.wrap (y0 + 1))))]
            []).bind
        fun val => bif fitsCells [R1.bool] val.1 && true then bif !(val.1.getD 0 TC.d).bool then some (sl1Parts.q4 false) else sl1Parts.L4 y0 (IntKind.i64.wrap (y1 + 1)) y2 y3 y4 y5 y6 else none
    else none
  else none
else some sl1Parts.x4 := by
  refine (lpL_eq (Y := Y) (c := lim' Y) (fn := 59) (rid := 4) (b := bodyAt 4 sl1Parts.c) (by kernel_rfl) _).trans ?_
  delta sl1Parts.L4 sl1Parts sl1Parts.q4 sl1Parts.x4 XX
  generalize lpL (Y.ctx (lim' Y)) 59 = lp
  generalize lim' Y = call
  kernel_rfl
theorem sl1Parts.a4q4 (y0 : Bool) :
    sl1Parts.A4 (sl1Parts.q4 y0) =
    some { cells := [TC.v (Value.bool y0)], objs := [] } := by
  delta sl1Parts.A4 sl1Parts.q4 XX
  generalize lpL (Y.ctx (lim' Y)) 59 = lp
  generalize lim' Y = call
  kernel_rfl
theorem sl1Parts.a4x4 :
    sl1Parts.A4 sl1Parts.x4 =
    some { cells := [TC.v (Value.bool true)], objs := [] } := by
  delta sl1Parts.A4 sl1Parts.x4 XX
  generalize lpL (Y.ctx (lim' Y)) 59 = lp
  generalize lim' Y = call
  kernel_rfl


noncomputable def sl1Count.L3 (y0 : Int) (y1 : Int) (y2 : Bool) (y3 : Int) (y4 : ByteArray) (y5 : List (List D)) (y6 : List (List D)) : Option (Ex × St) := lpL XX 60 (bodyAt 3 sl1Count.c)
  (mk 0 24 [(1, AV.one (A1.p true 1 [] 0)), (3, AV.one (A1.v (Value.int IntKind.i64 y0))), (4, AV.one (A1.v (Value.int IntKind.i64 y1)))]
    [(1, some { kind := Kind.box, row := [D.v (Value.bool y2), D.v (Value.int IntKind.i64 y3), D.v (Value.string y4), D.s y5, D.s y6], fl := [Own.deep, Own.deep, Own.deep, Own.sh, Own.sh] })])
noncomputable def sl1Count.A3 : Ex × St → Option Res := fun r => evA XX 60 (lpL XX 60) 3 sl1Count.c r.fst r.snd (outE XX 60 Try.f60)
noncomputable def sl1Count.x3 (y0 : Int) : Ex × St := (Ex.exit 0, mk 0 24 [(3, AV.one (A1.v (Value.int IntKind.i64 y0)))] [])
theorem sl1Count.e (a0 : Bool) (a1 : Int) (a2 : ByteArray) (a3 : List (List D)) (a4 : List (List D)) :
    sl1Count [AV.g [A1.v (Value.bool a0), A1.v (Value.int IntKind.i64 a1), A1.v (Value.string a2), A1.s a3, A1.s a4]] [] =
    (sl1Count.L3 (↑a4.length : Int) 0 a0 a1 a2 a3 a4).bind sl1Count.A3 := by
  refine (sl1Count.run _ _ (by kernel_rfl)).trans ?_
  delta sl1Count sl1Count.L3 sl1Count.A3 XX
  generalize lpL (Y.ctx (lim' Y)) 60 = lp
  generalize lim' Y = call
  kernel_rfl
theorem sl1Count.s3 (y0 : Int) (y1 : Int) (y2 : Bool) (y3 : Int) (y4 : ByteArray) (y5 : List (List D)) (y6 : List (List D)) :
    sl1Count.L3 y0 y1 y2 y3 y4 y5 y6 =
    bif decide (y1 < (↑y6.length : Int)) then
  bif decide (0 ≤ y1) && decide (y1 < (↑y6.length : Int)) && decide ((y6.getD y1.toNat []).length = 5) then
    bif fitsRow [CK.bool, CK.int IntKind.i64, CK.str, CK.sl, CK.sl] (y6.getD y1.toNat []) 0 && decide (5 ≤ (y6.getD y1.toNat []).length) then
      (sl1Count
            [AV.g
                [A1.v (Value.bool ((y6.getD y1.toNat []).getD 0 D.h).bool), A1.v (Value.int IntKind.i64 ((y6.getD y1.toNat []).getD 1 D.h).int),
                  A1.v (Value.string ((y6.getD y1.toNat []).getD 2 D.h).str), A1.s ((y6.getD y1.toNat []).getD 3 D.h).es, A1.s ((y6.getD y1.toNat []).getD 4 D.h).es]]
            []).bind
        fun val => bif fitsCells [R1.int IntKind.i64] val.1 && true then sl1Count.L3 (IntKind.i64.wrap (y0 + (val.1.getD 0 TC.d).int)) (IntKind.i64.wrap (y1 + 1)) y2 y3 y4 y5 y6 else none
    else none
  else none
else some (sl1Count.x3 y0) := by
  refine (lpL_eq (Y := Y) (c := lim' Y) (fn := 60) (rid := 3) (b := bodyAt 3 sl1Count.c) (by kernel_rfl) _).trans ?_
  delta sl1Count.L3 sl1Count sl1Count.x3 XX
  generalize lpL (Y.ctx (lim' Y)) 60 = lp
  generalize lim' Y = call
  kernel_rfl
theorem sl1Count.a3x3 (y0 : Int) :
    sl1Count.A3 (sl1Count.x3 y0) =
    some { cells := [TC.v (Value.int IntKind.i64 y0)], objs := [] } := by
  delta sl1Count.A3 sl1Count.x3 XX
  generalize lpL (Y.ctx (lim' Y)) 60 = lp
  generalize lim' Y = call
  kernel_rfl


theorem sl3Path.e (a0 : List (List D)) (a1 : ByteArray) :
    sl3Path [AV.one (A1.s a0), AV.one (A1.v (Value.string a1))] [] =
    bif rowsLen 1 a0 && rowsCell false a0 && true && decide ((0 + a0.length) * 17 ≤ 70368744177664) then
  bif rowsLen 1 a0 && true && true && true && decide ((a0.length + 1) * 17 ≤ 70368744177664) then some { cells := [TC.s (a0 ++ [[D.v (Value.string a1)]])], objs := [] } else none
else none := by
  refine (sl3Path.run _ _ (by kernel_rfl)).trans ?_
  delta sl3Path XX
  generalize lpL (Y.ctx (lim' Y)) 61 = lp
  generalize lim' Y = call
  kernel_rfl


noncomputable def iTree_sound.P2 (y0 : Int) (y1 : Bool) (y2 : Int) (y3 : ByteArray) (y4 : List (List D)) (y5 : List (List D)) : Option Res := evK XX 62 (lpL XX 62) (dropC 2 iTree_sound.c)
  (mk 0 77 [(1, AV.one (A1.v (Value.int IntKind.i64 y0))), (2, AV.one (A1.p true 2 [] 0))]
    [(2, some { kind := Kind.box, row := [D.v (Value.bool y1), D.v (Value.int IntKind.i64 y2), D.v (Value.string y3), D.s y4, D.s y5], fl := [Own.deep, Own.deep, Own.deep, Own.sh, Own.sh] })])
  (outE XX 62 Try.f62)
noncomputable def iTree_sound.P3 (y0 : Int) (y1 : Bool) (y2 : Int) (y3 : ByteArray) (y4 : List (List D)) (y5 : List (List D)) : Option Res := evK XX 62 (lpL XX 62) (dropC 3 iTree_sound.c)
  (mk 0 77 [(1, AV.one (A1.v (Value.int IntKind.i64 y0))), (2, AV.one (A1.p true 2 [] 0))]
    [(2, some { kind := Kind.box, row := [D.v (Value.bool y1), D.v (Value.int IntKind.i64 y2), D.v (Value.string y3), D.s y4, D.s y5], fl := [Own.deep, Own.deep, Own.deep, Own.sh, Own.sh] })])
  (outE XX 62 Try.f62)
noncomputable def iTree_sound.P4 (y0 : Int) (y1 : Bool) (y2 : Int) (y3 : ByteArray) (y4 : List (List D)) (y5 : List (List D)) : Option Res := evK XX 62 (lpL XX 62) (dropC 4 iTree_sound.c)
  (mk 0 77 [(1, AV.one (A1.v (Value.int IntKind.i64 y0))), (2, AV.one (A1.p true 2 [] 0))]
    [(2, some { kind := Kind.box, row := [D.v (Value.bool y1), D.v (Value.int IntKind.i64 y2), D.v (Value.string y3), D.s y4, D.s y5], fl := [Own.deep, Own.deep, Own.deep, Own.sh, Own.sh] })])
  (outE XX 62 Try.f62)
noncomputable def iTree_sound.L8 (y0 : Int) (y1 : List (List D)) (y2 : Int) (y3 : Int) (y4 : Bool) (y5 : Int) (y6 : ByteArray) (y7 : List (List D)) (y8 : List (List D)) : Option (Ex × St) := lpL XX 62 (bodyAt 8 (takeC 1 (dropC 4 iTree_sound.c)))
  (mk 0 77
    [(1, AV.one (A1.v (Value.int IntKind.i64 y0))), (2, AV.one (A1.p true 2 [] 0)), (41, AV.one (A1.s y1)), (42, AV.one (A1.v (Value.int IntKind.i64 y2))),
      (43, AV.one (A1.v (Value.int IntKind.i64 y3)))]
    [(2, some { kind := Kind.box, row := [D.v (Value.bool y4), D.v (Value.int IntKind.i64 y5), D.v (Value.string y6), D.s y7, D.s y8], fl := [Own.deep, Own.deep, Own.deep, Own.sh, Own.sh] })])
noncomputable def iTree_sound.A8 : Ex × St → Option Res := fun r =>
  evA XX 62 (lpL XX 62) 8 (takeC 1 (dropC 4 iTree_sound.c)) r.fst r.snd
    (cutR (XX.live 62 (cutKey (dropC 5 iTree_sound.c))) (fun S => evK XX 62 (lpL XX 62) (dropC 5 iTree_sound.c) S (outE XX 62 Try.f62)) (outE XX 62 Try.f62))
noncomputable def iTree_sound.q8 (y0 : Bool) : Ex × St := (Ex.ret, mk 0 77 [(4, AV.one (A1.v (Value.bool y0)))] [])
noncomputable def iTree_sound.x8 : Ex × St := (Ex.exit 0, mk 0 77 [] [])
noncomputable def iTree_sound.P5 : Option Res := evK XX 62 (lpL XX 62) (dropC 5 iTree_sound.c) (mk 0 77 [] []) (outE XX 62 Try.f62)
theorem iTree_sound.e (a0 : Bool) (a1 : Int) (a2 : ByteArray) (a3 : List (List D)) (a4 : List (List D)) (a5 : Int) :
    iTree_sound [AV.g [A1.v (Value.bool a0), A1.v (Value.int IntKind.i64 a1), A1.v (Value.string a2), A1.s a3, A1.s a4], AV.one (A1.v (Value.int IntKind.i64 a5))] [] =
    (imodeOk [AV.one (A1.v (Value.int IntKind.i64 a1))] []).bind fun val =>
  bif fitsCells [R1.bool] val.1 && true then
    bif !(val.1.getD 0 TC.d).bool then some { cells := [TC.v (Value.bool false)], objs := [] }
    else
      bif decide (a5 > 4) then some { cells := [TC.v (Value.bool false)], objs := [] }
      else bif (↑a3.length : Int) != (↑a4.length : Int) then some { cells := [TC.v (Value.bool false)], objs := [] } else iTree_sound.P2 a5 a0 a1 a2 a3 a4
  else none := by
  refine (iTree_sound.run _ _ (by kernel_rfl)).trans ?_
  delta iTree_sound imodeOk iTree_sound.P2 XX
  refine cut_use0 1 2 rfl (iTree_sound.c) (by kernel_rfl) fun K e1 => ?_
  try simp only [← e1]
  clear e1
  generalize lpL (Y.ctx (lim' Y)) 62 = lp
  generalize lim' Y = call
  kernel_rfl
theorem iTree_sound.p2 (y0 : Int) (y1 : Bool) (y2 : Int) (y3 : ByteArray) (y4 : List (List D)) (y5 : List (List D)) :
    iTree_sound.P2 y0 y1 y2 y3 y4 y5 =
    bif !y1 then bif decide ((↑y3.size : Int) ≤ 24) then some { cells := [TC.v (Value.bool ((↑y4.length : Int) == 0))], objs := [] } else some { cells := [TC.v (Value.bool false)], objs := [] }
else iTree_sound.P3 y0 y1 y2 y3 y4 y5 := by
  delta iTree_sound.P2 iTree_sound.P3 XX
  refine cut_use 2 0 3 rfl (iTree_sound.c) (by kernel_rfl) fun K e1 => ?_
  try simp only [← e1]
  clear e1
  generalize lpL (Y.ctx (lim' Y)) 62 = lp
  generalize lim' Y = call
  kernel_rfl
theorem iTree_sound.p3 (y0 : Int) (y1 : Bool) (y2 : Int) (y3 : ByteArray) (y4 : List (List D)) (y5 : List (List D)) :
    iTree_sound.P3 y0 y1 y2 y3 y4 y5 =
    bif !y3.toList == [] then some { cells := [TC.v (Value.bool false)], objs := [] } else iTree_sound.P4 y0 y1 y2 y3 y4 y5 := by
  delta iTree_sound.P3 iTree_sound.P4 XX
  refine cut_use 3 0 4 rfl (iTree_sound.c) (by kernel_rfl) fun K e1 => ?_
  try simp only [← e1]
  clear e1
  generalize lpL (Y.ctx (lim' Y)) 62 = lp
  generalize lim' Y = call
  kernel_rfl
theorem iTree_sound.p4 (y0 : Int) (y1 : Bool) (y2 : Int) (y3 : ByteArray) (y4 : List (List D)) (y5 : List (List D)) :
    iTree_sound.P4 y0 y1 y2 y3 y4 y5 =
    (iTree_sound.L8 y0 y4 (↑y4.length : Int) 0 y1 y2 y3 y4 y5).bind iTree_sound.A8 := by
  delta iTree_sound.P4 iTree_sound.L8 iTree_sound.A8 XX
  refine cut_use 4 0 5 rfl (iTree_sound.c) (by kernel_rfl) fun K e1 => ?_
  try simp only [← e1]
  clear e1
  generalize lpL (Y.ctx (lim' Y)) 62 = lp
  generalize lim' Y = call
  kernel_rfl
theorem iTree_sound.s8 (y0 : Int) (y1 : List (List D)) (y2 : Int) (y3 : Int) (y4 : Bool) (y5 : Int) (y6 : ByteArray) (y7 : List (List D)) (y8 : List (List D)) :
    iTree_sound.L8 y0 y1 y2 y3 y4 y5 y6 y7 y8 =
    bif decide (y3 < y2) then
  bif decide (0 ≤ y3) && decide (y3 < (↑y1.length : Int)) && decide ((y1.getD y3.toNat []).length = 1) then
    bif fitsRow [CK.str] (y1.getD y3.toNat []) 0 && decide (1 ≤ (y1.getD y3.toNat []).length) then
      (inameOk [AV.one (A1.v (Value.string ((y1.getD y3.toNat []).getD 0 D.h).str))] []).bind fun val =>
        bif fitsCells [R1.bool] val.1 && true then
          bif !(val.1.getD 0 TC.d).bool then some (iTree_sound.q8 false)
          else
            bif decide (y3 > 0) then
              bif decide (0 ≤ IntKind.i64.wrap (y3 - 1)) && decide (IntKind.i64.wrap (y3 - 1) < (↑y7.length : Int)) && decide ((y7.getD (IntKind.i64.wrap (y3 - 1)).toNat []).length = 1) then
                bif fitsRow [CK.str] (y7.getD (IntKind.i64.wrap (y3 - 1)).toNat []) 0 && decide (1 ≤ (y7.getD (IntKind.i64.wrap (y3 - 1)).toNat []).length) then
                  bif !Op.bytesLess ((y7.getD (IntKind.i64.wrap (y3 - 1)).toNat []).getD 0 D.h).str.toList ((y1.getD y3.toNat []).getD 0 D.h).str.toList then some (iTree_sound.q8 false)
                  else
                    bif decide (0 ≤ y3) && decide (y3 < (↑y8.length : Int)) && decide ((y8.getD y3.toNat []).length = 5) then
                      bif fitsRow [CK.bool, CK.int IntKind.i64, CK.str, CK.sl, CK.sl] (y8.getD y3.toNat []) 0 && decide (5 ≤ (y8.getD y3.toNat []).length) then
                        (iTree_sound
                              [AV.g
                                  [A1.v (Value.bool ((y8.getD y3.toNat []).getD 0 D.h).bool), A1.v (Value.int IntKind.i64 ((y8.getD y3.toNat []).getD 1 D.h).int),
                                    A1.v (Value.string ((y8.getD y3.toNat []).getD 2 D.h).str), A1.s ((y8.getD y3.toNat []).getD 3 D.h).es, A1.s ((y8.getD y3.toNat []).getD 4 D.h).es],
                                AV.one (A1.v (Value.int IntKind.i64 (IntKind.i64.wrap (y0 + 1))))]
                              []).bind
                          fun val =>
                          bif fitsCells [R1.bool] val.1 && true then
                            bif !(val.1.getD 0 TC.d).bool then some (iTree_sound.q8 false) else iTree_sound.L8 y0 y1 y2 (IntKind.i64.wrap (y3 + 1)) y4 y5 y6 y7 y8
                          else none
                      else none
                    else none
                else none
              else none
            else
              bif decide (0 ≤ y3) && decide (y3 < (↑y8.length : Int)) && decide ((y8.getD y3.toNat []).length = 5) then
                bif fitsRow [CK.bool, CK.int IntKind.i64, CK.str, CK.sl, CK.sl] (y8.getD y3.toNat []) 0 && decide (5 ≤ (y8.getD y3.toNat []).length) then
                  (iTree_sound
                        [AV.g
                            [A1.v (Value.bool ((y8.getD y3.toNat []).getD 0 D.h).bool), A1.v (Value.int IntKind.i64 ((y8.getD y3.toNat []).getD 1 D.h).int),
                              A1.v (Value.string ((y8.getD y3.toNat []).getD 2 D.h).str), A1.s ((y8.getD y3.toNat []).getD 3 D.h).es, A1.s ((y8.getD y3.toNat []).getD 4 D.h).es],
                          AV.one (A1.v (Value.int IntKind.i64 (IntKind.i64.wrap (y0 + 1))))]
                        []).bind
                    fun val =>
                    bif fitsCells [R1.bool] val.1 && true then bif !(val.1.getD 0 TC.d).bool then some (iTree_sound.q8 false) else iTree_sound.L8 y0 y1 y2 (IntKind.i64.wrap (y3 + 1)) y4 y5 y6 y7 y8
                    else none
                else none
              else none
        else none
    else none
  else none
else some iTree_sound.x8 := by
  refine (lpL_eq (Y := Y) (c := lim' Y) (fn := 62) (rid := 8) (b := bodyAt 8 (takeC 1 (dropC 4 iTree_sound.c))) (by kernel_rfl) _).trans ?_
  delta iTree_sound.L8 inameOk iTree_sound.q8 iTree_sound iTree_sound.x8 XX
  generalize lpL (Y.ctx (lim' Y)) 62 = lp
  generalize lim' Y = call
  kernel_rfl
theorem iTree_sound.a8q8 (y0 : Bool) :
    iTree_sound.A8 (iTree_sound.q8 y0) =
    some { cells := [TC.v (Value.bool y0)], objs := [] } := by
  delta iTree_sound.A8 iTree_sound.q8 XX
  obtain ⟨K, e1⟩ : ∃ K : St → Option (Res), ∀ S, K S = evK (Y.ctx (lim' Y)) 62 (lpL (Y.ctx (lim' Y)) 62) (dropC 5 (iTree_sound.c)) S (outE (Y.ctx (lim' Y)) 62 Try.f62) := ⟨_, fun _ => rfl⟩
  try simp only [← e1]
  clear e1
  generalize lpL (Y.ctx (lim' Y)) 62 = lp
  generalize lim' Y = call
  kernel_rfl
theorem iTree_sound.a8x8 :
    iTree_sound.A8 iTree_sound.x8 =
    iTree_sound.P5 := by
  delta iTree_sound.A8 iTree_sound.x8 iTree_sound.P5 XX
  obtain ⟨K, e1⟩ : ∃ K : St → Option (Res), ∀ S, K S = evK (Y.ctx (lim' Y)) 62 (lpL (Y.ctx (lim' Y)) 62) (dropC 5 (iTree_sound.c)) S (outE (Y.ctx (lim' Y)) 62 Try.f62) := ⟨_, fun _ => rfl⟩
  try simp only [← e1]
  clear e1
  generalize lpL (Y.ctx (lim' Y)) 62 = lp
  generalize lim' Y = call
  kernel_rfl
theorem iTree_sound.p5 :
    iTree_sound.P5 =
    some { cells := [TC.v (Value.bool true)], objs := [] } := by
  delta iTree_sound.P5 XX
  generalize lpL (Y.ctx (lim' Y)) 62 = lp
  generalize lim' Y = call
  kernel_rfl


noncomputable def iTree_paths.L3 (y0 : Int) (y1 : List (List D)) (y2 : Int) (y3 : Int) : Option (Ex × St) := lpL XX 63 (bodyAt 3 iTree_paths.c)
  (mk 0 19 [(3, AV.one (A1.v (Value.int IntKind.i64 y0))), (7, AV.one (A1.s y1)), (8, AV.one (A1.v (Value.int IntKind.i64 y2))), (9, AV.one (A1.v (Value.int IntKind.i64 y3)))] [])
noncomputable def iTree_paths.A3 : Ex × St → Option Res := fun r => evA XX 63 (lpL XX 63) 3 iTree_paths.c r.fst r.snd (outE XX 63 Try.f63)
noncomputable def iTree_paths.x3 (y0 : Int) : Ex × St := (Ex.exit 0, mk 0 19 [(3, AV.one (A1.v (Value.int IntKind.i64 y0)))] [])
theorem iTree_paths.e (a0 : Bool) (a1 : Int) (a2 : ByteArray) (a3 : List (List D)) (a4 : List (List D)) :
    iTree_paths [AV.g [A1.v (Value.bool a0), A1.v (Value.int IntKind.i64 a1), A1.v (Value.string a2), A1.s a3, A1.s a4]] [] =
    (iTree_paths.L3 1 a4 (↑a4.length : Int) 0).bind iTree_paths.A3 := by
  refine (iTree_paths.run _ _ (by kernel_rfl)).trans ?_
  delta iTree_paths iTree_paths.L3 iTree_paths.A3 XX
  generalize lpL (Y.ctx (lim' Y)) 63 = lp
  generalize lim' Y = call
  kernel_rfl
theorem iTree_paths.s3 (y0 : Int) (y1 : List (List D)) (y2 : Int) (y3 : Int) :
    iTree_paths.L3 y0 y1 y2 y3 =
    bif decide (y3 < y2) then
  bif decide (0 ≤ y3) && decide (y3 < (↑y1.length : Int)) && decide ((y1.getD y3.toNat []).length = 5) then
    bif fitsRow [CK.bool, CK.int IntKind.i64, CK.str, CK.sl, CK.sl] (y1.getD y3.toNat []) 0 && decide (5 ≤ (y1.getD y3.toNat []).length) then
      (iTree_paths
            [AV.g
                [A1.v (Value.bool ((y1.getD y3.toNat []).getD 0 D.h).bool), A1.v (Value.int IntKind.i64 ((y1.getD y3.toNat []).getD 1 D.h).int),
                  A1.v (Value.string ((y1.getD y3.toNat []).getD 2 D.h).str), A1.s ((y1.getD y3.toNat []).getD 3 D.h).es, A1.s ((y1.getD y3.toNat []).getD 4 D.h).es]]
            []).bind
        fun val => bif fitsCells [R1.int IntKind.i64] val.1 && true then iTree_paths.L3 (IntKind.i64.wrap (y0 + (val.1.getD 0 TC.d).int)) y1 y2 (IntKind.i64.wrap (y3 + 1)) else none
    else none
  else none
else some (iTree_paths.x3 y0) := by
  refine (lpL_eq (Y := Y) (c := lim' Y) (fn := 63) (rid := 3) (b := bodyAt 3 iTree_paths.c) (by kernel_rfl) _).trans ?_
  delta iTree_paths.L3 iTree_paths iTree_paths.x3 XX
  generalize lpL (Y.ctx (lim' Y)) 63 = lp
  generalize lim' Y = call
  kernel_rfl
theorem iTree_paths.a3x3 (y0 : Int) :
    iTree_paths.A3 (iTree_paths.x3 y0) =
    some { cells := [TC.v (Value.int IntKind.i64 y0)], objs := [] } := by
  delta iTree_paths.A3 iTree_paths.x3 XX
  generalize lpL (Y.ctx (lim' Y)) 63 = lp
  generalize lim' Y = call
  kernel_rfl


noncomputable def iTree_each_paths.L3 (y0 : List (List D)) (y1 : List (List D)) (y2 : Int) (y3 : Int) (y4 : List (List D)) (y5 : Bool) (y6 : Int) (y7 : ByteArray) (y8 : List (List D)) (y9 : List (List D)) : Option (Ex × St) := lpL XX 64 (bodyAt 3 iTree_each.c)
  (mk 1 31
    [(1, AV.one (A1.s y0)), (2, AV.f ipathsOf_1.id [A1.p true 0 [] 0]), (3, AV.one (A1.p true 4 [] 0)), (13, AV.one (A1.s y1)), (14, AV.one (A1.v (Value.int IntKind.i64 y2))),
      (15, AV.one (A1.v (Value.int IntKind.i64 y3)))]
    [(0, some { kind := Kind.box, row := [D.s y4], fl := [Own.deep] }),
      (4, some { kind := Kind.box, row := [D.v (Value.bool y5), D.v (Value.int IntKind.i64 y6), D.v (Value.string y7), D.s y8, D.s y9], fl := [Own.deep, Own.deep, Own.deep, Own.sh, Own.sh] })])
noncomputable def iTree_each_paths.A3 : Ex × St → Option Res := fun r => evA XX 64 (lpL XX 64) 3 iTree_each.c r.fst r.snd (outE XX 64 Try.f64)
noncomputable def iTree_each_paths.x3 (y0 : List (List D)) : Ex × St := (Ex.exit 0, mk 1 31 [] [(0, some { kind := Kind.box, row := [D.s y0], fl := [Own.deep] })])
theorem iTree_each_paths.e (a0 : Bool) (a1 : Int) (a2 : ByteArray) (a3 : List (List D)) (a4 : List (List D)) (a5 : List (List D)) (a6 : List (List D)) :
    iTree_each [AV.g [A1.v (Value.bool a0), A1.v (Value.int IntKind.i64 a1), A1.v (Value.string a2), A1.s a3, A1.s a4], AV.one (A1.s a5), AV.f ipathsOf_1.id [A1.p true 0 [] 0]]
  [{ kind := Kind.box, row := [D.s a6], fl := [Own.deep] }] =
    (ipathsOf_1 [AV.one (A1.s a5), AV.g [A1.v (Value.bool a0), A1.v (Value.int IntKind.i64 a1), A1.v (Value.string a2), A1.s a3, A1.s a4], AV.one (A1.p true 0 [] 0)]
      [{ kind := Kind.box, row := [D.s a6], fl := [Own.deep] }]).bind
  fun val =>
  bif fitsCells [] val.1 && fitsCos [{ ob := { kind := Kind.box, row := [D.s a6], fl := [Own.deep] }, src := Src.box 0 }] val.2 then
    (iTree_each_paths.L3 a5 a3 (↑a3.length : Int) 0 ((val.2.getD 0 { kind := Kind.ro, row := [], fl := [] }).2.getD 0 D.h).es a0 a1 a2 a3 a4).bind iTree_each_paths.A3
  else none := by
  refine (iTree_each.run _ _ (by kernel_rfl)).trans ?_
  delta iTree_each ipathsOf_1 iTree_each_paths.L3 iTree_each_paths.A3 ipathsOf_1.id XX
  generalize lpL (Y.ctx (lim' Y)) 64 = lp
  generalize lim' Y = call
  kernel_rfl
theorem iTree_each_paths.s3 (y0 : List (List D)) (y1 : List (List D)) (y2 : Int) (y3 : Int) (y4 : List (List D)) (y5 : Bool) (y6 : Int) (y7 : ByteArray) (y8 : List (List D)) (y9 : List (List D)) :
    iTree_each_paths.L3 y0 y1 y2 y3 y4 y5 y6 y7 y8 y9 =
    bif decide (y3 < y2) then
  bif decide (0 ≤ y3) && decide (y3 < (↑y1.length : Int)) && decide ((y1.getD y3.toNat []).length = 1) then
    bif fitsRow [CK.str] (y1.getD y3.toNat []) 0 && decide (1 ≤ (y1.getD y3.toNat []).length) then
      bif decide (0 ≤ y3) && decide (y3 < (↑y9.length : Int)) && decide ((y9.getD y3.toNat []).length = 5) then
        bif fitsRow [CK.bool, CK.int IntKind.i64, CK.str, CK.sl, CK.sl] (y9.getD y3.toNat []) 0 && decide (5 ≤ (y9.getD y3.toNat []).length) then
          (ibelow [AV.one (A1.s y0), AV.one (A1.v (Value.string ((y1.getD y3.toNat []).getD 0 D.h).str))] []).bind fun val =>
            bif fitsCells [R1.own Own.deep] val.1 && true then
              (iTree_each
                    [AV.g
                        [A1.v (Value.bool ((y9.getD y3.toNat []).getD 0 D.h).bool), A1.v (Value.int IntKind.i64 ((y9.getD y3.toNat []).getD 1 D.h).int),
                          A1.v (Value.string ((y9.getD y3.toNat []).getD 2 D.h).str), A1.s ((y9.getD y3.toNat []).getD 3 D.h).es, A1.s ((y9.getD y3.toNat []).getD 4 D.h).es],
                      AV.one (A1.s (val.1.getD 0 TC.d).es), AV.f ipathsOf_1.id [A1.p true 0 [] 0]]
                    [{ kind := Kind.box, row := [D.s y4], fl := [Own.deep] }]).bind
                fun val =>
                bif fitsCells [] val.1 && fitsCos [{ ob := { kind := Kind.box, row := [D.s y4], fl := [Own.deep] }, src := Src.box 0 }] val.2 then
                  iTree_each_paths.L3 y0 y1 y2 (IntKind.i64.wrap (y3 + 1)) ((val.2.getD 0 { kind := Kind.ro, row := [], fl := [] }).2.getD 0 D.h).es y5 y6 y7 y8 y9
                else none
            else none
        else none
      else none
    else none
  else none
else some (iTree_each_paths.x3 y4) := by
  refine (lpL_eq (Y := Y) (c := lim' Y) (fn := 64) (rid := 3) (b := bodyAt 3 iTree_each.c) (by kernel_rfl) _).trans ?_
  delta iTree_each_paths.L3 ibelow iTree_each iTree_each_paths.x3 ipathsOf_1.id XX
  generalize lpL (Y.ctx (lim' Y)) 64 = lp
  generalize lim' Y = call
  kernel_rfl
theorem iTree_each_paths.a3x3 (y0 : List (List D)) :
    iTree_each_paths.A3 (iTree_each_paths.x3 y0) =
    some { cells := [], objs := [{ kind := Kind.box, row := [D.s y0], fl := [Own.deep] }] } := by
  delta iTree_each_paths.A3 iTree_each_paths.x3 XX
  generalize lpL (Y.ctx (lim' Y)) 64 = lp
  generalize lim' Y = call
  kernel_rfl


noncomputable def iTree_each_pathsn.L3 (y0 : List (List D)) (y1 : Int) (y2 : Int) (y3 : List (List D)) (y4 : Bool) (y5 : Int) (y6 : ByteArray) (y7 : List (List D)) (y8 : List (List D)) : Option (Ex × St) := lpL XX 64 (bodyAt 3 iTree_each.c)
  (mk 1 31
    [(1, AV.one (A1.v (Value.slice none 0 0))), (2, AV.f ipathsOf_1.id [A1.p true 0 [] 0]), (3, AV.one (A1.p true 4 [] 0)), (13, AV.one (A1.s y0)), (14, AV.one (A1.v (Value.int IntKind.i64 y1))),
      (15, AV.one (A1.v (Value.int IntKind.i64 y2)))]
    [(0, some { kind := Kind.box, row := [D.s y3], fl := [Own.deep] }),
      (4, some { kind := Kind.box, row := [D.v (Value.bool y4), D.v (Value.int IntKind.i64 y5), D.v (Value.string y6), D.s y7, D.s y8], fl := [Own.deep, Own.deep, Own.deep, Own.sh, Own.sh] })])
noncomputable def iTree_each_pathsn.A3 : Ex × St → Option Res := fun r => evA XX 64 (lpL XX 64) 3 iTree_each.c r.fst r.snd (outE XX 64 Try.f64)
noncomputable def iTree_each_pathsn.x3 (y0 : List (List D)) : Ex × St := (Ex.exit 0, mk 1 31 [] [(0, some { kind := Kind.box, row := [D.s y0], fl := [Own.deep] })])
theorem iTree_each_pathsn.e (a0 : Bool) (a1 : Int) (a2 : ByteArray) (a3 : List (List D)) (a4 : List (List D)) (a6 : List (List D)) :
    iTree_each [AV.g [A1.v (Value.bool a0), A1.v (Value.int IntKind.i64 a1), A1.v (Value.string a2), A1.s a3, A1.s a4], AV.one (A1.v (Value.slice none 0 0)), AV.f ipathsOf_1.id [A1.p true 0 [] 0]]
  [{ kind := Kind.box, row := [D.s a6], fl := [Own.deep] }] =
    (ipathsOf_1 [AV.one (A1.v (Value.slice none 0 0)), AV.g [A1.v (Value.bool a0), A1.v (Value.int IntKind.i64 a1), A1.v (Value.string a2), A1.s a3, A1.s a4], AV.one (A1.p true 0 [] 0)]
      [{ kind := Kind.box, row := [D.s a6], fl := [Own.deep] }]).bind
  fun val =>
  bif fitsCells [] val.1 && fitsCos [{ ob := { kind := Kind.box, row := [D.s a6], fl := [Own.deep] }, src := Src.box 0 }] val.2 then
    (iTree_each_pathsn.L3 a3 (↑a3.length : Int) 0 ((val.2.getD 0 { kind := Kind.ro, row := [], fl := [] }).2.getD 0 D.h).es a0 a1 a2 a3 a4).bind iTree_each_pathsn.A3
  else none := by
  refine (iTree_each.run _ _ (by kernel_rfl)).trans ?_
  delta iTree_each ipathsOf_1 iTree_each_pathsn.L3 iTree_each_pathsn.A3 ipathsOf_1.id XX
  generalize lpL (Y.ctx (lim' Y)) 64 = lp
  generalize lim' Y = call
  kernel_rfl
theorem iTree_each_pathsn.s3 (y0 : List (List D)) (y1 : Int) (y2 : Int) (y3 : List (List D)) (y4 : Bool) (y5 : Int) (y6 : ByteArray) (y7 : List (List D)) (y8 : List (List D)) :
    iTree_each_pathsn.L3 y0 y1 y2 y3 y4 y5 y6 y7 y8 =
    bif decide (y2 < y1) then
  bif decide (0 ≤ y2) && decide (y2 < (↑y0.length : Int)) && decide ((y0.getD y2.toNat []).length = 1) then
    bif fitsRow [CK.str] (y0.getD y2.toNat []) 0 && decide (1 ≤ (y0.getD y2.toNat []).length) then
      bif decide (0 ≤ y2) && decide (y2 < (↑y8.length : Int)) && decide ((y8.getD y2.toNat []).length = 5) then
        bif fitsRow [CK.bool, CK.int IntKind.i64, CK.str, CK.sl, CK.sl] (y8.getD y2.toNat []) 0 && decide (5 ≤ (y8.getD y2.toNat []).length) then
          (ibelow [AV.one (A1.v (Value.slice none 0 0)), AV.one (A1.v (Value.string ((y0.getD y2.toNat []).getD 0 D.h).str))] []).bind fun val =>
            bif fitsCells [R1.own Own.deep] val.1 && true then
              (iTree_each
                    [AV.g
                        [A1.v (Value.bool ((y8.getD y2.toNat []).getD 0 D.h).bool), A1.v (Value.int IntKind.i64 ((y8.getD y2.toNat []).getD 1 D.h).int),
                          A1.v (Value.string ((y8.getD y2.toNat []).getD 2 D.h).str), A1.s ((y8.getD y2.toNat []).getD 3 D.h).es, A1.s ((y8.getD y2.toNat []).getD 4 D.h).es],
                      AV.one (A1.s (val.1.getD 0 TC.d).es), AV.f ipathsOf_1.id [A1.p true 0 [] 0]]
                    [{ kind := Kind.box, row := [D.s y3], fl := [Own.deep] }]).bind
                fun val =>
                bif fitsCells [] val.1 && fitsCos [{ ob := { kind := Kind.box, row := [D.s y3], fl := [Own.deep] }, src := Src.box 0 }] val.2 then
                  iTree_each_pathsn.L3 y0 y1 (IntKind.i64.wrap (y2 + 1)) ((val.2.getD 0 { kind := Kind.ro, row := [], fl := [] }).2.getD 0 D.h).es y4 y5 y6 y7 y8
                else none
            else none
        else none
      else none
    else none
  else none
else some (iTree_each_pathsn.x3 y3) := by
  refine (lpL_eq (Y := Y) (c := lim' Y) (fn := 64) (rid := 3) (b := bodyAt 3 iTree_each.c) (by kernel_rfl) _).trans ?_
  delta iTree_each_pathsn.L3 ibelow iTree_each iTree_each_pathsn.x3 ipathsOf_1.id XX
  generalize lpL (Y.ctx (lim' Y)) 64 = lp
  generalize lim' Y = call
  kernel_rfl
theorem iTree_each_pathsn.a3x3 (y0 : List (List D)) :
    iTree_each_pathsn.A3 (iTree_each_pathsn.x3 y0) =
    some { cells := [], objs := [{ kind := Kind.box, row := [D.s y0], fl := [Own.deep] }] } := by
  delta iTree_each_pathsn.A3 iTree_each_pathsn.x3 XX
  generalize lpL (Y.ctx (lim' Y)) 64 = lp
  generalize lim' Y = call
  kernel_rfl


theorem ipathsOf_1.e (a0 : List (List D)) (b0 : Bool) (b1 : Int) (b2 : ByteArray) (b3 : List (List D)) (b4 : List (List D)) (a6 : List (List D)) :
    ipathsOf_1 [AV.one (A1.s a0), AV.g [A1.v (Value.bool b0), A1.v (Value.int IntKind.i64 b1), A1.v (Value.string b2), A1.s b3, A1.s b4], AV.one (A1.p true 0 [] 0)]
  [{ kind := Kind.box, row := [D.s a6], fl := [Own.deep] }] =
    bif decide ((↑a0.length : Int) > 0) then
  bif rowsLen 1 a0 && rowsCell false a0 && true && decide ((0 + a0.length) * 17 ≤ 70368744177664) then
    bif rowsLen 1 a6 && true && true && true && decide ((a6.length + 1) * 25 ≤ 70368744177664) then
      some { cells := [], objs := [{ kind := Kind.box, row := [D.s (a6 ++ [[D.s a0]])], fl := [Own.deep] }] }
    else none
  else none
else some { cells := [], objs := [{ kind := Kind.box, row := [D.s a6], fl := [Own.deep] }] } := by
  refine (ipathsOf_1.run _ _ (by kernel_rfl)).trans ?_
  delta ipathsOf_1 XX
  generalize lpL (Y.ctx (lim' Y)) 65 = lp
  generalize lim' Y = call
  kernel_rfl


theorem ipathsOf_1n.e (b0 : Bool) (b1 : Int) (b2 : ByteArray) (b3 : List (List D)) (b4 : List (List D)) (a6 : List (List D)) :
    ipathsOf_1 [AV.one (A1.v (Value.slice none 0 0)), AV.g [A1.v (Value.bool b0), A1.v (Value.int IntKind.i64 b1), A1.v (Value.string b2), A1.s b3, A1.s b4], AV.one (A1.p true 0 [] 0)]
  [{ kind := Kind.box, row := [D.s a6], fl := [Own.deep] }] =
    some { cells := [], objs := [{ kind := Kind.box, row := [D.s a6], fl := [Own.deep] }] } := by
  refine (ipathsOf_1.run _ _ (by kernel_rfl)).trans ?_
  delta ipathsOf_1 XX
  generalize lpL (Y.ctx (lim' Y)) 65 = lp
  generalize lim' Y = call
  kernel_rfl


noncomputable def sl2Within.L4 (y0 : List (List D)) (y1 : List (List D)) (y2 : Int) : Option (Ex × St) := lpL XX 66 (bodyAt 4 sl2Within.c) (mk 0 26 [(0, AV.one (A1.s y0)), (1, AV.one (A1.s y1)), (5, AV.one (A1.v (Value.int IntKind.i64 y2)))] [])
noncomputable def sl2Within.A4 : Ex × St → Option Res := fun r => evA XX 66 (lpL XX 66) 4 sl2Within.c r.fst r.snd (outE XX 66 Try.f66)
noncomputable def sl2Within.q4 (y0 : Bool) : Ex × St := (Ex.ret, mk 0 26 [(4, AV.one (A1.v (Value.bool y0)))] [])
noncomputable def sl2Within.x4 : Ex × St := (Ex.exit 0, mk 0 26 [] [])
theorem sl2Within.e (a0 : List (List D)) (a1 : List (List D)) :
    sl2Within [AV.one (A1.s a0), AV.one (A1.s a1)] [] =
    bif decide ((↑a0.length : Int) < (↑a1.length : Int)) then some { cells := [TC.v (Value.bool false)], objs := [] } else (sl2Within.L4 a0 a1 0).bind sl2Within.A4 := by
  refine (sl2Within.run _ _ (by kernel_rfl)).trans ?_
  delta sl2Within sl2Within.L4 sl2Within.A4 XX
  generalize lpL (Y.ctx (lim' Y)) 66 = lp
  generalize lim' Y = call
  kernel_rfl
theorem sl2Within.s4 (y0 : List (List D)) (y1 : List (List D)) (y2 : Int) :
    sl2Within.L4 y0 y1 y2 =
    bif decide (y2 < (↑y1.length : Int)) then
  bif decide (0 ≤ y2) && decide (y2 < (↑y0.length : Int)) && decide ((y0.getD y2.toNat []).length = 1) then
    bif fitsRow [CK.str] (y0.getD y2.toNat []) 0 && decide (1 ≤ (y0.getD y2.toNat []).length) then
      bif decide (0 ≤ y2) && decide (y2 < (↑y1.length : Int)) && decide ((y1.getD y2.toNat []).length = 1) then
        bif fitsRow [CK.str] (y1.getD y2.toNat []) 0 && decide (1 ≤ (y1.getD y2.toNat []).length) then
          bif !((y0.getD y2.toNat []).getD 0 D.h).str.toList == ((y1.getD y2.toNat []).getD 0 D.h).str.toList then some (sl2Within.q4 false) else sl2Within.L4 y0 y1 (IntKind.i64.wrap (y2 + 1))
        else none
      else none
    else none
  else none
else some sl2Within.x4 := by
  refine (lpL_eq (Y := Y) (c := lim' Y) (fn := 66) (rid := 4) (b := bodyAt 4 sl2Within.c) (by kernel_rfl) _).trans ?_
  delta sl2Within.L4 sl2Within.q4 sl2Within.x4 XX
  generalize lpL (Y.ctx (lim' Y)) 66 = lp
  generalize lim' Y = call
  kernel_rfl
theorem sl2Within.a4q4 (y0 : Bool) :
    sl2Within.A4 (sl2Within.q4 y0) =
    some { cells := [TC.v (Value.bool y0)], objs := [] } := by
  delta sl2Within.A4 sl2Within.q4 XX
  generalize lpL (Y.ctx (lim' Y)) 66 = lp
  generalize lim' Y = call
  kernel_rfl
theorem sl2Within.a4x4 :
    sl2Within.A4 sl2Within.x4 =
    some { cells := [TC.v (Value.bool true)], objs := [] } := by
  delta sl2Within.A4 sl2Within.x4 XX
  generalize lpL (Y.ctx (lim' Y)) 66 = lp
  generalize lim' Y = call
  kernel_rfl


noncomputable def sl1NameOk.L2 (y0 : ByteArray) (y1 : Int) : Option (Ex × St) := lpL XX 67 (bodyAt 2 sl1NameOk.c) (mk 0 36 [(0, AV.one (A1.v (Value.string y0))), (3, AV.one (A1.v (Value.int IntKind.i64 y1)))] [])
noncomputable def sl1NameOk.A2 : Ex × St → Option Res := fun r => evA XX 67 (lpL XX 67) 2 sl1NameOk.c r.fst r.snd (outE XX 67 Try.f67)
noncomputable def sl1NameOk.q2 (y0 : ByteArray) (y1 : Bool) : Ex × St := (Ex.ret, mk 0 36 [(0, AV.one (A1.v (Value.string y0))), (2, AV.one (A1.v (Value.bool y1)))] [])
noncomputable def sl1NameOk.x2 (y0 : ByteArray) : Ex × St := (Ex.exit 0, mk 0 36 [(0, AV.one (A1.v (Value.string y0)))] [])
theorem sl1NameOk.e (a0 : ByteArray) :
    sl1NameOk [AV.one (A1.v (Value.string a0))] [] =
    (sl1NameOk.L2 a0 0).bind sl1NameOk.A2 := by
  refine (sl1NameOk.run _ _ (by kernel_rfl)).trans ?_
  delta sl1NameOk sl1NameOk.L2 sl1NameOk.A2 XX
  generalize lpL (Y.ctx (lim' Y)) 67 = lp
  generalize lim' Y = call
  kernel_rfl
theorem sl1NameOk.s2 (y0 : ByteArray) (y1 : Int) :
    sl1NameOk.L2 y0 y1 =
    bif decide (y1 < (↑y0.size : Int)) then
  bif decide (0 ≤ y1) && decide (y1 < (↑y0.size : Int)) then
    bif decide (byteAt y0 y1.toNat ≥ 97) then
      bif decide (0 ≤ y1) && decide (y1 < (↑y0.size : Int)) then
        bif decide (byteAt y0 y1.toNat ≤ 122) then sl1NameOk.L2 y0 (IntKind.i64.wrap (y1 + 1))
        else
          bif decide (0 ≤ y1) && decide (y1 < (↑y0.size : Int)) then
            bif decide (byteAt y0 y1.toNat ≥ 48) then
              bif decide (0 ≤ y1) && decide (y1 < (↑y0.size : Int)) then bif !decide (byteAt y0 y1.toNat ≤ 57) then some (sl1NameOk.q2 y0 false) else sl1NameOk.L2 y0 (IntKind.i64.wrap (y1 + 1))
              else none
            else some (sl1NameOk.q2 y0 false)
          else none
      else none
    else
      bif decide (0 ≤ y1) && decide (y1 < (↑y0.size : Int)) then
        bif decide (byteAt y0 y1.toNat ≥ 48) then
          bif decide (0 ≤ y1) && decide (y1 < (↑y0.size : Int)) then bif !decide (byteAt y0 y1.toNat ≤ 57) then some (sl1NameOk.q2 y0 false) else sl1NameOk.L2 y0 (IntKind.i64.wrap (y1 + 1)) else none
        else some (sl1NameOk.q2 y0 false)
      else none
  else none
else some (sl1NameOk.x2 y0) := by
  refine (lpL_eq (Y := Y) (c := lim' Y) (fn := 67) (rid := 2) (b := bodyAt 2 sl1NameOk.c) (by kernel_rfl) _).trans ?_
  delta sl1NameOk.L2 sl1NameOk.q2 sl1NameOk.x2 XX
  generalize lpL (Y.ctx (lim' Y)) 67 = lp
  generalize lim' Y = call
  kernel_rfl
theorem sl1NameOk.a2q2 (y0 : ByteArray) (y1 : Bool) :
    sl1NameOk.A2 (sl1NameOk.q2 y0 y1) =
    some { cells := [TC.v (Value.bool y1)], objs := [] } := by
  delta sl1NameOk.A2 sl1NameOk.q2 XX
  generalize lpL (Y.ctx (lim' Y)) 67 = lp
  generalize lim' Y = call
  kernel_rfl
theorem sl1NameOk.a2x2 (y0 : ByteArray) :
    sl1NameOk.A2 (sl1NameOk.x2 y0) =
    (sl1In [AV.one (A1.v (Value.int IntKind.i64 (↑y0.size : Int))), AV.one (A1.v (Value.int IntKind.i64 1)), AV.one (A1.v (Value.int IntKind.i64 5))] []).bind fun val =>
  bif fitsCells [R1.bool] val.1 && true then some { cells := [TC.v (Value.bool (val.1.getD 0 TC.d).bool)], objs := [] } else none := by
  delta sl1NameOk.A2 sl1NameOk.x2 sl1In XX
  generalize lpL (Y.ctx (lim' Y)) 67 = lp
  generalize lim' Y = call
  kernel_rfl


noncomputable def inameOk.L2 (y0 : ByteArray) (y1 : Int) (y2 : Int) : Option (Ex × St) := lpL XX 68 (bodyAt 2 inameOk.c) (mk 0 35 [(0, AV.one (A1.v (Value.string y0))), (5, AV.one (A1.v (Value.int IntKind.i64 y1))), (6, AV.one (A1.v (Value.int IntKind.i64 y2)))] [])
noncomputable def inameOk.A2 : Ex × St → Option Res := fun r => evA XX 68 (lpL XX 68) 2 inameOk.c r.fst r.snd (outE XX 68 Try.f68)
noncomputable def inameOk.q2 (y0 : ByteArray) (y1 : Bool) : Ex × St := (Ex.ret, mk 0 35 [(0, AV.one (A1.v (Value.string y0))), (2, AV.one (A1.v (Value.bool y1)))] [])
noncomputable def inameOk.x2 (y0 : ByteArray) : Ex × St := (Ex.exit 0, mk 0 35 [(0, AV.one (A1.v (Value.string y0)))] [])
theorem inameOk.e (a0 : ByteArray) :
    inameOk [AV.one (A1.v (Value.string a0))] [] =
    (inameOk.L2 a0 (↑a0.size : Int) 0).bind inameOk.A2 := by
  refine (inameOk.run _ _ (by kernel_rfl)).trans ?_
  delta inameOk inameOk.L2 inameOk.A2 XX
  generalize lpL (Y.ctx (lim' Y)) 68 = lp
  generalize lim' Y = call
  kernel_rfl
theorem inameOk.s2 (y0 : ByteArray) (y1 : Int) (y2 : Int) :
    inameOk.L2 y0 y1 y2 =
    bif decide (y2 < y1) then
  bif decide (0 ≤ y2) && decide (y2 < (↑y0.size : Int)) then
    bif decide (byteAt y0 y2.toNat < 97) then
      bif decide (0 ≤ y2) && decide (y2 < (↑y0.size : Int)) then
        bif decide (byteAt y0 y2.toNat < 48) then some (inameOk.q2 y0 false)
        else bif decide (0 ≤ y2) && decide (y2 < (↑y0.size : Int)) then bif decide (byteAt y0 y2.toNat > 57) then some (inameOk.q2 y0 false) else inameOk.L2 y0 y1 (IntKind.i64.wrap (y2 + 1)) else none
      else none
    else
      bif decide (0 ≤ y2) && decide (y2 < (↑y0.size : Int)) then
        bif decide (byteAt y0 y2.toNat > 122) then
          bif decide (0 ≤ y2) && decide (y2 < (↑y0.size : Int)) then
            bif decide (byteAt y0 y2.toNat < 48) then some (inameOk.q2 y0 false)
            else
              bif decide (0 ≤ y2) && decide (y2 < (↑y0.size : Int)) then bif decide (byteAt y0 y2.toNat > 57) then some (inameOk.q2 y0 false) else inameOk.L2 y0 y1 (IntKind.i64.wrap (y2 + 1))
              else none
          else none
        else inameOk.L2 y0 y1 (IntKind.i64.wrap (y2 + 1))
      else none
  else none
else some (inameOk.x2 y0) := by
  refine (lpL_eq (Y := Y) (c := lim' Y) (fn := 68) (rid := 2) (b := bodyAt 2 inameOk.c) (by kernel_rfl) _).trans ?_
  delta inameOk.L2 inameOk.q2 inameOk.x2 XX
  generalize lpL (Y.ctx (lim' Y)) 68 = lp
  generalize lim' Y = call
  kernel_rfl
theorem inameOk.a2q2 (y0 : ByteArray) (y1 : Bool) :
    inameOk.A2 (inameOk.q2 y0 y1) =
    some { cells := [TC.v (Value.bool y1)], objs := [] } := by
  delta inameOk.A2 inameOk.q2 XX
  generalize lpL (Y.ctx (lim' Y)) 68 = lp
  generalize lim' Y = call
  kernel_rfl
theorem inameOk.a2x2 (y0 : ByteArray) :
    inameOk.A2 (inameOk.x2 y0) =
    (iwithin [AV.one (A1.v (Value.int IntKind.i64 (↑y0.size : Int))), AV.one (A1.v (Value.int IntKind.i64 1)), AV.one (A1.v (Value.int IntKind.i64 5))] []).bind fun val =>
  bif fitsCells [R1.bool] val.1 && true then some { cells := [TC.v (Value.bool (val.1.getD 0 TC.d).bool)], objs := [] } else none := by
  delta inameOk.A2 inameOk.x2 iwithin XX
  generalize lpL (Y.ctx (lim' Y)) 68 = lp
  generalize lim' Y = call
  kernel_rfl


theorem cmp_Compare_string.e (a0 : ByteArray) (a1 : ByteArray) :
    cmp_Compare_string [AV.one (A1.v (Value.string a0)), AV.one (A1.v (Value.string a1))] [] =
    (cmp_isNaN_string [AV.one (A1.v (Value.string a0))] []).bind fun val =>
  bif fitsCells [R1.bool] val.1 && true then
    (cmp_isNaN_string [AV.one (A1.v (Value.string a1))] []).bind fun val_1 =>
      bif fitsCells [R1.bool] val_1.1 && true then
        bif (val.1.getD 0 TC.d).bool then
          bif (val_1.1.getD 0 TC.d).bool then some { cells := [TC.v (Value.int IntKind.i64 0)], objs := [] } else some { cells := [TC.v (Value.int IntKind.i64 (-1))], objs := [] }
        else
          bif (val_1.1.getD 0 TC.d).bool then some { cells := [TC.v (Value.int IntKind.i64 1)], objs := [] }
          else
            bif Op.bytesLess a0.toList a1.toList then some { cells := [TC.v (Value.int IntKind.i64 (-1))], objs := [] }
            else
              bif !(Op.bytesLess a0.toList a1.toList || a0.toList == a1.toList) then some { cells := [TC.v (Value.int IntKind.i64 1)], objs := [] }
              else some { cells := [TC.v (Value.int IntKind.i64 0)], objs := [] }
      else none
  else none := by
  refine (cmp_Compare_string.run _ _ (by kernel_rfl)).trans ?_
  delta cmp_Compare_string cmp_isNaN_string XX
  generalize lpL (Y.ctx (lim' Y)) 69 = lp
  generalize lim' Y = call
  kernel_rfl


noncomputable def sl1Plain.P2 (y0 : Bool) (y1 : Int) (y2 : ByteArray) (y3 : List (List D)) (y4 : List (List D)) : Option Res := evK XX 70 (lpL XX 70) (dropC 2 sl1Plain.c)
  (mk 0 65 [(1, AV.one (A1.p true 1 [] 0))]
    [(1, some { kind := Kind.box, row := [D.v (Value.bool y0), D.v (Value.int IntKind.i64 y1), D.v (Value.string y2), D.s y3, D.s y4], fl := [Own.deep, Own.deep, Own.deep, Own.sh, Own.sh] })])
  (outE XX 70 Try.f70)
noncomputable def sl1Plain.P3 (y0 : Bool) (y1 : Int) (y2 : ByteArray) (y3 : List (List D)) (y4 : List (List D)) : Option Res := evK XX 70 (lpL XX 70) (dropC 3 sl1Plain.c)
  (mk 0 65 [(1, AV.one (A1.p true 1 [] 0))]
    [(1, some { kind := Kind.box, row := [D.v (Value.bool y0), D.v (Value.int IntKind.i64 y1), D.v (Value.string y2), D.s y3, D.s y4], fl := [Own.deep, Own.deep, Own.deep, Own.sh, Own.sh] })])
  (outE XX 70 Try.f70)
noncomputable def sl1Plain.L6 (y0 : Int) (y1 : Bool) (y2 : Int) (y3 : ByteArray) (y4 : List (List D)) (y5 : List (List D)) : Option (Ex × St) := lpL XX 70 (bodyAt 6 (takeC 1 (dropC 3 sl1Plain.c)))
  (mk 0 65 [(1, AV.one (A1.p true 1 [] 0)), (3, AV.one (A1.v (Value.int IntKind.i64 y0)))]
    [(1, some { kind := Kind.box, row := [D.v (Value.bool y1), D.v (Value.int IntKind.i64 y2), D.v (Value.string y3), D.s y4, D.s y5], fl := [Own.deep, Own.deep, Own.deep, Own.sh, Own.sh] })])
noncomputable def sl1Plain.A6 : Ex × St → Option Res := fun r =>
  evA XX 70 (lpL XX 70) 6 (takeC 1 (dropC 3 sl1Plain.c)) r.fst r.snd
    (cutR (XX.live 70 (cutKey (dropC 4 sl1Plain.c))) (fun S => evK XX 70 (lpL XX 70) (dropC 4 sl1Plain.c) S (outE XX 70 Try.f70)) (outE XX 70 Try.f70))
noncomputable def sl1Plain.q6 (y0 : Bool) (y1 : Bool) (y2 : Int) (y3 : ByteArray) (y4 : List (List D)) (y5 : List (List D)) : Ex × St := (Ex.ret,
  mk 0 65 [(1, AV.one (A1.p true 1 [] 0)), (2, AV.one (A1.v (Value.bool y0)))]
    [(1, some { kind := Kind.box, row := [D.v (Value.bool y1), D.v (Value.int IntKind.i64 y2), D.v (Value.string y3), D.s y4, D.s y5], fl := [Own.deep, Own.deep, Own.deep, Own.sh, Own.sh] })])
noncomputable def sl1Plain.x6 (y0 : Bool) (y1 : Int) (y2 : ByteArray) (y3 : List (List D)) (y4 : List (List D)) : Ex × St := (Ex.exit 0,
  mk 0 65 [(1, AV.one (A1.p true 1 [] 0))]
    [(1, some { kind := Kind.box, row := [D.v (Value.bool y0), D.v (Value.int IntKind.i64 y1), D.v (Value.string y2), D.s y3, D.s y4], fl := [Own.deep, Own.deep, Own.deep, Own.sh, Own.sh] })])
noncomputable def sl1Plain.P4 (y0 : Bool) (y1 : Int) (y2 : ByteArray) (y3 : List (List D)) (y4 : List (List D)) : Option Res := evK XX 70 (lpL XX 70) (dropC 4 sl1Plain.c)
  (mk 0 65 [(1, AV.one (A1.p true 1 [] 0))]
    [(1, some { kind := Kind.box, row := [D.v (Value.bool y0), D.v (Value.int IntKind.i64 y1), D.v (Value.string y2), D.s y3, D.s y4], fl := [Own.deep, Own.deep, Own.deep, Own.sh, Own.sh] })])
  (outE XX 70 Try.f70)
theorem sl1Plain.e (a0 : Bool) (a1 : Int) (a2 : ByteArray) (a3 : List (List D)) (a4 : List (List D)) :
    sl1Plain [AV.g [A1.v (Value.bool a0), A1.v (Value.int IntKind.i64 a1), A1.v (Value.string a2), A1.s a3, A1.s a4]] [] =
    (sl1In [AV.one (A1.v (Value.int IntKind.i64 a1)), AV.one (A1.v (Value.int IntKind.i64 0)), AV.one (A1.v (Value.int IntKind.i64 7))] []).bind fun val =>
  bif fitsCells [R1.bool] val.1 && true then
    bif !(val.1.getD 0 TC.d).bool then some { cells := [TC.v (Value.bool false)], objs := [] }
    else bif (↑a3.length : Int) != (↑a4.length : Int) then some { cells := [TC.v (Value.bool false)], objs := [] } else sl1Plain.P2 a0 a1 a2 a3 a4
  else none := by
  refine (sl1Plain.run _ _ (by kernel_rfl)).trans ?_
  delta sl1Plain sl1In sl1Plain.P2 XX
  refine cut_use0 1 2 rfl (sl1Plain.c) (by kernel_rfl) fun K e1 => ?_
  try simp only [← e1]
  clear e1
  generalize lpL (Y.ctx (lim' Y)) 70 = lp
  generalize lim' Y = call
  kernel_rfl
theorem sl1Plain.p2 (y0 : Bool) (y1 : Int) (y2 : ByteArray) (y3 : List (List D)) (y4 : List (List D)) :
    sl1Plain.P2 y0 y1 y2 y3 y4 =
    bif !y0 then bif decide ((↑y2.size : Int) ≤ 24) then some { cells := [TC.v (Value.bool ((↑y3.length : Int) == 0))], objs := [] } else some { cells := [TC.v (Value.bool false)], objs := [] }
else sl1Plain.P3 y0 y1 y2 y3 y4 := by
  delta sl1Plain.P2 sl1Plain.P3 XX
  refine cut_use 2 0 3 rfl (sl1Plain.c) (by kernel_rfl) fun K e1 => ?_
  try simp only [← e1]
  clear e1
  generalize lpL (Y.ctx (lim' Y)) 70 = lp
  generalize lim' Y = call
  kernel_rfl
theorem sl1Plain.p3 (y0 : Bool) (y1 : Int) (y2 : ByteArray) (y3 : List (List D)) (y4 : List (List D)) :
    sl1Plain.P3 y0 y1 y2 y3 y4 =
    (sl1Plain.L6 0 y0 y1 y2 y3 y4).bind sl1Plain.A6 := by
  delta sl1Plain.P3 sl1Plain.L6 sl1Plain.A6 XX
  refine cut_use 3 0 4 rfl (sl1Plain.c) (by kernel_rfl) fun K e1 => ?_
  try simp only [← e1]
  clear e1
  generalize lpL (Y.ctx (lim' Y)) 70 = lp
  generalize lim' Y = call
  kernel_rfl
theorem sl1Plain.s6 (y0 : Int) (y1 : Bool) (y2 : Int) (y3 : ByteArray) (y4 : List (List D)) (y5 : List (List D)) :
    sl1Plain.L6 y0 y1 y2 y3 y4 y5 =
    bif decide (y0 < (↑y4.length : Int)) then
  bif decide (0 ≤ y0) && decide (y0 < (↑y4.length : Int)) && decide ((y4.getD y0.toNat []).length = 1) then
    bif fitsRow [CK.str] (y4.getD y0.toNat []) 0 && decide (1 ≤ (y4.getD y0.toNat []).length) then
      (sl1NameOk [AV.one (A1.v (Value.string ((y4.getD y0.toNat []).getD 0 D.h).str))] []).bind fun val =>
        bif fitsCells [R1.bool] val.1 && true then
          bif !(val.1.getD 0 TC.d).bool then some (sl1Plain.q6 false y1 y2 y3 y4 y5)
          else
            bif decide (y0 > 0) then
              bif decide (0 ≤ IntKind.i64.wrap (y0 - 1)) && decide (IntKind.i64.wrap (y0 - 1) < (↑y4.length : Int)) && decide ((y4.getD (IntKind.i64.wrap (y0 - 1)).toNat []).length = 1) then
                bif fitsRow [CK.str] (y4.getD (IntKind.i64.wrap (y0 - 1)).toNat []) 0 && decide (1 ≤ (y4.getD (IntKind.i64.wrap (y0 - 1)).toNat []).length) then
                  bif decide (0 ≤ y0) && decide (y0 < (↑y4.length : Int)) && decide ((y4.getD y0.toNat []).length = 1) then
                    bif fitsRow [CK.str] (y4.getD y0.toNat []) 0 && decide (1 ≤ (y4.getD y0.toNat []).length) then
                      bif !Op.bytesLess ((y4.getD (IntKind.i64.wrap (y0 - 1)).toNat []).getD 0 D.h).str.toList ((y4.getD y0.toNat []).getD 0 D.h).str.toList then
                        some (sl1Plain.q6 false y1 y2 y3 y4 y5)
                      else sl1Plain.L6 (IntKind.i64.wrap (y0 + 1)) y1 y2 y3 y4 y5
                    else none
                  else none
                else none
              else none
            else sl1Plain.L6 (IntKind.i64.wrap (y0 + 1)) y1 y2 y3 y4 y5
        else none
    else none
  else none
else some (sl1Plain.x6 y1 y2 y3 y4 y5) := by
  refine (lpL_eq (Y := Y) (c := lim' Y) (fn := 70) (rid := 6) (b := bodyAt 6 (takeC 1 (dropC 3 sl1Plain.c))) (by kernel_rfl) _).trans ?_
  delta sl1Plain.L6 sl1NameOk sl1Plain.q6 sl1Plain.x6 XX
  generalize lpL (Y.ctx (lim' Y)) 70 = lp
  generalize lim' Y = call
  kernel_rfl
theorem sl1Plain.a6q6 (y0 : Bool) (y1 : Bool) (y2 : Int) (y3 : ByteArray) (y4 : List (List D)) (y5 : List (List D)) :
    sl1Plain.A6 (sl1Plain.q6 y0 y1 y2 y3 y4 y5) =
    some { cells := [TC.v (Value.bool y0)], objs := [] } := by
  delta sl1Plain.A6 sl1Plain.q6 XX
  obtain ⟨K, e1⟩ : ∃ K : St → Option (Res), ∀ S, K S = evK (Y.ctx (lim' Y)) 70 (lpL (Y.ctx (lim' Y)) 70) (dropC 4 (sl1Plain.c)) S (outE (Y.ctx (lim' Y)) 70 Try.f70) := ⟨_, fun _ => rfl⟩
  try simp only [← e1]
  clear e1
  generalize lpL (Y.ctx (lim' Y)) 70 = lp
  generalize lim' Y = call
  kernel_rfl
theorem sl1Plain.a6x6 (y0 : Bool) (y1 : Int) (y2 : ByteArray) (y3 : List (List D)) (y4 : List (List D)) :
    sl1Plain.A6 (sl1Plain.x6 y0 y1 y2 y3 y4) =
    sl1Plain.P4 y0 y1 y2 y3 y4 := by
  delta sl1Plain.A6 sl1Plain.x6 sl1Plain.P4 XX
  obtain ⟨K, e1⟩ : ∃ K : St → Option (Res), ∀ S, K S = evK (Y.ctx (lim' Y)) 70 (lpL (Y.ctx (lim' Y)) 70) (dropC 4 (sl1Plain.c)) S (outE (Y.ctx (lim' Y)) 70 Try.f70) := ⟨_, fun _ => rfl⟩
  try simp only [← e1]
  clear e1
  generalize lpL (Y.ctx (lim' Y)) 70 = lp
  generalize lim' Y = call
  kernel_rfl
theorem sl1Plain.p4 (y0 : Bool) (y1 : Int) (y2 : ByteArray) (y3 : List (List D)) (y4 : List (List D)) :
    sl1Plain.P4 y0 y1 y2 y3 y4 =
    some { cells := [TC.v (Value.bool (y2.toList == []))], objs := [] } := by
  delta sl1Plain.P4 XX
  generalize lpL (Y.ctx (lim' Y)) 70 = lp
  generalize lim' Y = call
  kernel_rfl


theorem imodeOk.e (a0 : Int) :
    imodeOk [AV.one (A1.v (Value.int IntKind.i64 a0))] [] =
    (iwithin [AV.one (A1.v (Value.int IntKind.i64 a0)), AV.one (A1.v (Value.int IntKind.i64 0)), AV.one (A1.v (Value.int IntKind.i64 7))] []).bind fun val =>
  bif fitsCells [R1.bool] val.1 && true then some { cells := [TC.v (Value.bool (val.1.getD 0 TC.d).bool)], objs := [] } else none := by
  refine (imodeOk.run _ _ (by kernel_rfl)).trans ?_
  delta imodeOk iwithin XX
  generalize lpL (Y.ctx (lim' Y)) 71 = lp
  generalize lim' Y = call
  kernel_rfl


theorem ibelow.e (a0 : List (List D)) (a1 : ByteArray) :
    ibelow [AV.one (A1.s a0), AV.one (A1.v (Value.string a1))] [] =
    bif rowsLen 1 a0 && rowsCell false a0 && true && decide ((0 + a0.length) * 17 ≤ 70368744177664) then
  bif rowsLen 1 a0 && true && true && true && decide ((a0.length + 1) * 17 ≤ 70368744177664) then some { cells := [TC.o Own.deep (a0 ++ [[D.v (Value.string a1)]])], objs := [] } else none
else none := by
  refine (ibelow.run _ _ (by kernel_rfl)).trans ?_
  delta ibelow XX
  generalize lpL (Y.ctx (lim' Y)) 72 = lp
  generalize lim' Y = call
  kernel_rfl


theorem ibelown.e (a1 : ByteArray) :
    ibelow [AV.one (A1.v (Value.slice none 0 0)), AV.one (A1.v (Value.string a1))] [] =
    some { cells := [TC.o Own.deep [[D.v (Value.string a1)]]], objs := [] } := by
  refine (ibelow.run _ _ (by kernel_rfl)).trans ?_
  delta ibelow XX
  generalize lpL (Y.ctx (lim' Y)) 72 = lp
  generalize lim' Y = call
  kernel_rfl


theorem cmp_isNaN_string.e (a0 : ByteArray) :
    cmp_isNaN_string [AV.one (A1.v (Value.string a0))] [] =
    some { cells := [TC.v (Value.bool !a0.toList == a0.toList)], objs := [] } := by
  refine (cmp_isNaN_string.run _ _ (by kernel_rfl)).trans ?_
  delta cmp_isNaN_string XX
  generalize lpL (Y.ctx (lim' Y)) 73 = lp
  generalize lim' Y = call
  kernel_rfl


end Go.PVx
