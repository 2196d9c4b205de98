/- A part of the proof: PvGRes. -/
import Derived.Test.YtgpfhocdahjnmaaDoorTab
import Derived.KernelRfl
set_option linter.unusedSimpArgs false
set_option linter.unusedVariables false
/- PRINTED by a tool of this work (wip/pv/tool/gen2.py): what each function's code comes to. -/
namespace Go.PVx
open Go.PV Go.Proofs
set_option maxRecDepth 100000
set_option linter.unusedVariables false
noncomputable def wFnExactNodesRead.P6 (y0 : ByteArray) (y1 : Bool) (y2 : Bool) (y3 : Int) (y4 : List (List D)) (y5 : Int) (y6 : List (List D)) : Option Res := evB XX 3 (lpL XX 3) 6 wFnExactNodesRead.c
  (mkG 0 66 [(0, AV.one (A1.v (Value.string y0))), (3, AV.one (A1.p true 3 [] 0)), (4, AV.one (A1.v (Value.bool y1))), (5, AV.one (A1.p true 5 [] 0)), (32, AV.one (A1.v (Value.bool y2)))]
    [(3, some { kind := Kind.box, row := [D.v (Value.int IntKind.i64 y3), D.s y4], fl := [Own.deep, Own.deep] }),
      (5, some { kind := Kind.box, row := [D.v (Value.int IntKind.i64 y5), D.s y6], fl := [Own.deep, Own.deep] })]
    GL)
  (outE XX 3 Tryd.f3)
noncomputable def wFnExactNodesRead.P7 (y0 : ByteArray) (y1 : Bool) (y2 : Int) (y3 : List (List D)) (y4 : Int) (y5 : List (List D)) : Option Res := evB XX 3 (lpL XX 3) 7 wFnExactNodesRead.c
  (mkG 0 66 [(0, AV.one (A1.v (Value.string y0))), (3, AV.one (A1.p true 3 [] 0)), (4, AV.one (A1.v (Value.bool y1))), (5, AV.one (A1.p true 5 [] 0))]
    [(3, some { kind := Kind.box, row := [D.v (Value.int IntKind.i64 y2), D.s y3], fl := [Own.deep, Own.deep] }),
      (5, some { kind := Kind.box, row := [D.v (Value.int IntKind.i64 y4), D.s y5], fl := [Own.deep, Own.deep] })]
    GL)
  (outE XX 3 Tryd.f3)
noncomputable def wFnExactNodesRead.P16 (y0 : Bool) (y1 : Int) (y2 : Bool) (y3 : Int) (y4 : List (List D)) (y5 : Int) (y6 : List (List D)) (y7 : Int) (y8 : List (List D)) : Option Res := evB XX 3 (lpL XX 3) 16 wFnExactNodesRead.c
  (mkG 0 66
    [(3, AV.one (A1.p true 3 [] 0)), (4, AV.one (A1.v (Value.bool y0))), (5, AV.one (A1.p true 5 [] 0)), (7, AV.one (A1.v (Value.int IntKind.i64 y1))), (9, AV.one (A1.p true 9 [] 0)),
      (10, AV.one (A1.v (Value.bool y2)))]
    [(3, some { kind := Kind.box, row := [D.v (Value.int IntKind.i64 y3), D.s y4], fl := [Own.deep, Own.deep] }),
      (5, some { kind := Kind.box, row := [D.v (Value.int IntKind.i64 y5), D.s y6], fl := [Own.deep, Own.deep] }),
      (9, some { kind := Kind.box, row := [D.v (Value.int IntKind.i64 y7), D.s y8], fl := [Own.deep, Own.deep] })]
    GL)
  (outE XX 3 Tryd.f3)
noncomputable def wFnExactNodesRead.P17 (y0 : Int) (y1 : Bool) (y2 : Int) (y3 : List (List D)) : Option Res := evB XX 3 (lpL XX 3) 17 wFnExactNodesRead.c
  (mkG 0 66 [(5, AV.one (A1.p true 5 [] 0)), (7, AV.one (A1.v (Value.int IntKind.i64 y0))), (57, AV.one (A1.v (Value.bool y1)))]
    [(5, some { kind := Kind.box, row := [D.v (Value.int IntKind.i64 y2), D.s y3], fl := [Own.deep, Own.deep] })] GL)
  (outE XX 3 Tryd.f3)
noncomputable def wFnExactNodesRead.P18 (y0 : Int) (y1 : Int) (y2 : List (List D)) : Option Res := evB XX 3 (lpL XX 3) 18 wFnExactNodesRead.c
  (mkG 0 66 [(5, AV.one (A1.p true 5 [] 0)), (7, AV.one (A1.v (Value.int IntKind.i64 y0)))]
    [(5, some { kind := Kind.box, row := [D.v (Value.int IntKind.i64 y1), D.s y2], fl := [Own.deep, Own.deep] })] GL)
  (outE XX 3 Tryd.f3)
theorem wFnExactNodesRead.e (a0 : ByteArray) :
    wFnExactNodesRead [AV.one (A1.v (Value.string a0))] [] =
    bif decide ((↑a0.size : Int) > 1048576) then some { cells := [TC.v (Value.bool true)], objs := [] }
else
  (sNodesRead [AV.one (A1.v (Value.string a0))] []).bind fun val =>
    bif fitsCells [R1.int IntKind.i64, R1.own Own.deep, R1.bool] val.1 && true then
      (iNodesRead [AV.one (A1.v (Value.string a0))] []).bind fun val_1 =>
        bif fitsCells [R1.int IntKind.i64, R1.own Own.deep, R1.bool] val_1.1 && true then
          (weqNodes
                [AV.g [A1.v (Value.int IntKind.i64 (val_1.1.getD 0 TC.d).int), A1.s (val_1.1.getD 1 TC.d).es], AV.g [A1.v (Value.int IntKind.i64 (val.1.getD 0 TC.d).int), A1.s (val.1.getD 1 TC.d).es]]
                []).bind
            fun val_2 =>
            bif fitsCells [R1.bool] val_2.1 && true then
              bif !(val_2.1.getD 0 TC.d).bool then
                wFnExactNodesRead.P6 a0 (val.1.getD 2 TC.d).bool true (val.1.getD 0 TC.d).int (val.1.getD 1 TC.d).es (val_1.1.getD 0 TC.d).int (val_1.1.getD 1 TC.d).es
              else
                wFnExactNodesRead.P6 a0 (val.1.getD 2 TC.d).bool (!(val_1.1.getD 2 TC.d).bool == (val.1.getD 2 TC.d).bool) (val.1.getD 0 TC.d).int (val.1.getD 1 TC.d).es (val_1.1.getD 0 TC.d).int
                  (val_1.1.getD 1 TC.d).es
            else none
        else none
    else none := by
  refine (wFnExactNodesRead.run _ _ (by kernel_rfl)).trans ?_
  delta wFnExactNodesRead sNodesRead iNodesRead weqNodes wFnExactNodesRead.P6 XX
  refine join_use [6, 7, 16, 17, 18] (by kernel_rfl) fun J e1 => ?_
  try simp only [← e1]
  clear e1
  generalize lpL (Y.ctx (lim' Y)) 3 = lp
  generalize lim' Y = call
  kernel_rfl
theorem wFnExactNodesRead.p6 (y0 : ByteArray) (y1 : Bool) (y2 : Bool) (y3 : Int) (y4 : List (List D)) (y5 : Int) (y6 : List (List D)) :
    wFnExactNodesRead.P6 y0 y1 y2 y3 y4 y5 y6 =
    bif y2 then some { cells := [TC.v (Value.bool false)], objs := [] } else wFnExactNodesRead.P7 y0 y1 y3 y4 y5 y6 := by
  delta wFnExactNodesRead.P6 wFnExactNodesRead.P7 XX
  refine join_at [6, 7, 16, 17, 18] 6 (by kernel_rfl) fun J e1 => ?_
  try simp only [← e1]
  clear e1
  generalize lpL (Y.ctx (lim' Y)) 3 = lp
  generalize lim' Y = call
  kernel_rfl
theorem wFnExactNodesRead.p7 (y0 : ByteArray) (y1 : Bool) (y2 : Int) (y3 : List (List D)) (y4 : Int) (y5 : List (List D)) :
    wFnExactNodesRead.P7 y0 y1 y2 y3 y4 y5 =
    (wmarkNodes [AV.g [A1.v (Value.int IntKind.i64 y4), A1.r 0 [] 0], AV.one (A1.v (Value.int IntKind.i64 1))] [{ kind := Kind.virt, row := [D.s y5], fl := [Own.deep] }]).bind fun val =>
  bif fitsCells [R1.int IntKind.i64] val.1 && fitsCos [{ ob := { kind := Kind.virt, row := [D.s y5], fl := [Own.deep] }, src := Src.sl 5 [] 1 }] val.2 then
    (wheldNodes [AV.g [A1.v (Value.int IntKind.i64 y4), A1.s ((val.2.getD 0 { kind := Kind.ro, row := [], fl := [] }).2.getD 0 D.h).es], AV.one (A1.v (Value.int IntKind.i64 1))] []).bind fun val_1 =>
      bif fitsCells [R1.int IntKind.i64] val_1.1 && true then
        bif decide ((val_1.1.getD 0 TC.d).int < 0) then some { cells := [TC.v (Value.bool false)], objs := [] }
        else
          bif (val_1.1.getD 0 TC.d).int != (val.1.getD 0 TC.d).int then some { cells := [TC.v (Value.bool false)], objs := [] }
          else
            (iNodesRead [AV.one (A1.v (Value.string y0))] []).bind fun val_2 =>
              bif fitsCells [R1.int IntKind.i64, R1.own Own.deep, R1.bool] val_2.1 && true then
                wFnExactNodesRead.P16 y1 (val.1.getD 0 TC.d).int (val_2.1.getD 2 TC.d).bool y2 y3 y4 ((val.2.getD 0 { kind := Kind.ro, row := [], fl := [] }).2.getD 0 D.h).es (val_2.1.getD 0 TC.d).int
                  (val_2.1.getD 1 TC.d).es
              else none
      else none
  else none := by
  delta wFnExactNodesRead.P7 wmarkNodes wheldNodes iNodesRead wFnExactNodesRead.P16 XX
  refine join_at [6, 7, 16, 17, 18] 7 (by kernel_rfl) fun J e1 => ?_
  try simp only [← e1]
  clear e1
  generalize lpL (Y.ctx (lim' Y)) 3 = lp
  generalize lim' Y = call
  kernel_rfl
theorem wFnExactNodesRead.p16 (y0 : Bool) (y1 : Int) (y2 : Bool) (y3 : Int) (y4 : List (List D)) (y5 : Int) (y6 : List (List D)) (y7 : Int) (y8 : List (List D)) :
    wFnExactNodesRead.P16 y0 y1 y2 y3 y4 y5 y6 y7 y8 =
    (weqNodes [AV.g [A1.v (Value.int IntKind.i64 y7), A1.s y8], AV.g [A1.v (Value.int IntKind.i64 y3), A1.s y4]] []).bind fun val =>
  bif fitsCells [R1.bool] val.1 && true then bif !(val.1.getD 0 TC.d).bool then wFnExactNodesRead.P17 y1 true y5 y6 else wFnExactNodesRead.P17 y1 (!y2 == y0) y5 y6 else none := by
  delta wFnExactNodesRead.P16 weqNodes wFnExactNodesRead.P17 XX
  refine join_at [6, 7, 16, 17, 18] 16 (by kernel_rfl) fun J e1 => ?_
  try simp only [← e1]
  clear e1
  generalize lpL (Y.ctx (lim' Y)) 3 = lp
  generalize lim' Y = call
  kernel_rfl
theorem wFnExactNodesRead.p17 (y0 : Int) (y1 : Bool) (y2 : Int) (y3 : List (List D)) :
    wFnExactNodesRead.P17 y0 y1 y2 y3 =
    bif y1 then some { cells := [TC.v (Value.bool false)], objs := [] } else wFnExactNodesRead.P18 y0 y2 y3 := by
  delta wFnExactNodesRead.P17 wFnExactNodesRead.P18 XX
  refine join_at [6, 7, 16, 17, 18] 17 (by kernel_rfl) fun J e1 => ?_
  try simp only [← e1]
  clear e1
  generalize lpL (Y.ctx (lim' Y)) 3 = lp
  generalize lim' Y = call
  kernel_rfl
theorem wFnExactNodesRead.p18 (y0 : Int) (y1 : Int) (y2 : List (List D)) :
    wFnExactNodesRead.P18 y0 y1 y2 =
    (wheldNodes [AV.g [A1.v (Value.int IntKind.i64 y1), A1.s y2], AV.one (A1.v (Value.int IntKind.i64 1))] []).bind fun val =>
  bif fitsCells [R1.int IntKind.i64] val.1 && true then
    bif decide ((val.1.getD 0 TC.d).int < 0) then some { cells := [TC.v (Value.bool false)], objs := [] }
    else bif (val.1.getD 0 TC.d).int != y0 then some { cells := [TC.v (Value.bool false)], objs := [] } else some { cells := [TC.v (Value.bool true)], objs := [] }
  else none := by
  delta wFnExactNodesRead.P18 wheldNodes XX
  refine join_at [6, 7, 16, 17, 18] 18 (by kernel_rfl) fun J e1 => ?_
  try simp only [← e1]
  clear e1
  generalize lpL (Y.ctx (lim' Y)) 3 = lp
  generalize lim' Y = call
  kernel_rfl


noncomputable def sNodesRead.L4 (y0 : ByteArray) (y1 : Int) (y2 : Int) (y3 : List (List D)) (y4 : List (List D)) (y5 : Int) (y6 : List (List D)) : Option (Ex × St) := lpL XX 5 (bodyAt 4 sNodesRead.c)
  (mkG 0 67 [(0, AV.one (A1.v (Value.string y0))), (2, AV.one (A1.p true 2 [] 0)), (4, AV.one (A1.r 4 [] 0)), (5, AV.one (A1.p true 5 [] 0)), (6, AV.one (A1.v (Value.int IntKind.i64 y1)))]
    [(2, some { kind := Kind.box, row := [D.v (Value.int IntKind.i64 y2), D.s y3], fl := [Own.deep, Own.deep] }), (4, some { kind := Kind.virt, row := [D.s y4], fl := [Own.deep] }),
      (5, some { kind := Kind.box, row := [D.v (Value.int IntKind.i64 y5), D.s y6], fl := [Own.deep, Own.deep] })]
    GL)
noncomputable def sNodesRead.A4 : Ex × St → Option Res := fun r => evA XX 5 (lpL XX 5) 4 sNodesRead.c r.fst r.snd (outE XX 5 Tryd.f5)
noncomputable def sNodesRead.P8 (y0 : ByteArray) (y1 : Int) (y2 : Bool) (y3 : Int) (y4 : List (List D)) (y5 : List (List D)) (y6 : Int) (y7 : List (List D)) (y8 : List (List D)) : Option (Ex × St) := evB XX 5 (lpL XX 5) 8 (bodyAt 4 sNodesRead.c)
  (mkG 0 67
    [(0, AV.one (A1.v (Value.string y0))), (2, AV.one (A1.p true 2 [] 0)), (4, AV.one (A1.r 4 [] 0)), (5, AV.one (A1.p true 5 [] 0)), (6, AV.one (A1.v (Value.int IntKind.i64 y1))),
      (7, AV.one (A1.r 7 [] 0)), (30, AV.one (A1.v (Value.bool y2)))]
    [(2, some { kind := Kind.box, row := [D.v (Value.int IntKind.i64 y3), D.s y4], fl := [Own.deep, Own.deep] }), (4, some { kind := Kind.virt, row := [D.s y5], fl := [Own.deep] }),
      (5, some { kind := Kind.box, row := [D.v (Value.int IntKind.i64 y6), D.s y7], fl := [Own.deep, Own.deep] }), (7, some { kind := Kind.virt, row := [D.s y8], fl := [Own.deep] })]
    GL)
  (backL (lpL XX 5) (bodyAt 4 sNodesRead.c) (XX.live 5 4))
noncomputable def sNodesRead.x4 (y0 : ByteArray) (y1 : Int) (y2 : List (List D)) (y3 : Int) (y4 : List (List D)) : Ex × St := (Ex.exit 0,
  mkG 0 67 [(0, AV.one (A1.v (Value.string y0))), (2, AV.one (A1.p true 2 [] 0)), (5, AV.one (A1.p true 5 [] 0))]
    [(2, some { kind := Kind.box, row := [D.v (Value.int IntKind.i64 y1), D.s y2], fl := [Own.deep, Own.deep] }),
      (5, some { kind := Kind.box, row := [D.v (Value.int IntKind.i64 y3), D.s y4], fl := [Own.deep, Own.deep] })]
    GL)
noncomputable def sNodesRead.q4 (y0 : ByteArray) (y1 : Bool) (y2 : Int) (y3 : List (List D)) (y4 : Int) (y5 : List (List D)) : Ex × St := (Ex.ret,
  mkG 0 67 [(0, AV.one (A1.v (Value.string y0))), (2, AV.one (A1.p true 2 [] 0)), (3, AV.one (A1.v (Value.bool y1))), (5, AV.one (A1.p true 5 [] 0))]
    [(2, some { kind := Kind.box, row := [D.v (Value.int IntKind.i64 y2), D.s y3], fl := [Own.deep, Own.deep] }),
      (5, some { kind := Kind.box, row := [D.v (Value.int IntKind.i64 y4), D.s y5], fl := [Own.deep, Own.deep] })]
    GL)
noncomputable def sNodesRead.P9 (y0 : ByteArray) (y1 : Int) (y2 : Int) (y3 : List (List D)) (y4 : List (List D)) (y5 : Int) (y6 : List (List D)) (y7 : List (List D)) : Option (Ex × St) := evB XX 5 (lpL XX 5) 9 (bodyAt 4 sNodesRead.c)
  (mkG 0 67
    [(0, AV.one (A1.v (Value.string y0))), (2, AV.one (A1.p true 2 [] 0)), (4, AV.one (A1.r 4 [] 0)), (5, AV.one (A1.p true 5 [] 0)), (6, AV.one (A1.v (Value.int IntKind.i64 y1))),
      (7, AV.one (A1.r 7 [] 0))]
    [(2, some { kind := Kind.box, row := [D.v (Value.int IntKind.i64 y2), D.s y3], fl := [Own.deep, Own.deep] }), (4, some { kind := Kind.virt, row := [D.s y4], fl := [Own.deep] }),
      (5, some { kind := Kind.box, row := [D.v (Value.int IntKind.i64 y5), D.s y6], fl := [Own.deep, Own.deep] }), (7, some { kind := Kind.virt, row := [D.s y7], fl := [Own.deep] })]
    GL)
  (backL (lpL XX 5) (bodyAt 4 sNodesRead.c) (XX.live 5 4))
noncomputable def sNodesRead.P14 (y0 : Bool) (y1 : Int) (y2 : List (List D)) (y3 : Int) (y4 : List (List D)) : Option Res := evB XX 5 (lpL XX 5) 14 sNodesRead.c
  (mkG 0 67 [(2, AV.one (A1.p true 2 [] 0)), (5, AV.one (A1.p true 5 [] 0)), (63, AV.one (A1.v (Value.bool y0)))]
    [(2, some { kind := Kind.box, row := [D.v (Value.int IntKind.i64 y1), D.s y2], fl := [Own.deep, Own.deep] }),
      (5, some { kind := Kind.box, row := [D.v (Value.int IntKind.i64 y3), D.s y4], fl := [Own.deep, Own.deep] })]
    GL)
  (outE XX 5 Tryd.f5)
noncomputable def sNodesRead.L4b (y0 : ByteArray) (y1 : Int) (y2 : Int) (y3 : List (List D)) (y4 : List (List D)) (y5 : Int) (y6 : List (List D)) : Option (Ex × St) := lpL XX 5 (bodyAt 4 sNodesRead.c)
  (mkG 0 67 [(0, AV.one (A1.v (Value.string y0))), (2, AV.one (A1.p true 2 [] 0)), (4, AV.one (A1.r 4 [] 0)), (5, AV.one (A1.p true 5 [] 0)), (6, AV.one (A1.v (Value.int IntKind.i64 y1)))]
    [(2, some { kind := Kind.box, row := [D.v (Value.int IntKind.i64 y2), D.s y3], fl := [Own.deep, Own.deep] }), (4, some { kind := Kind.virt, row := [D.s y4], fl := [Own.deep] }),
      (5, some { kind := Kind.box, row := [D.v (Value.int IntKind.i64 y5), D.s y6], fl := [Own.deep, Own.top] })]
    GL)
noncomputable def sNodesRead.P15 (y0 : Int) (y1 : List (List D)) (y2 : Int) (y3 : List (List D)) : Option Res := evB XX 5 (lpL XX 5) 15 sNodesRead.c
  (mkG 0 67 [(2, AV.one (A1.p true 2 [] 0)), (5, AV.one (A1.p true 5 [] 0))]
    [(2, some { kind := Kind.box, row := [D.v (Value.int IntKind.i64 y0), D.s y1], fl := [Own.deep, Own.deep] }),
      (5, some { kind := Kind.box, row := [D.v (Value.int IntKind.i64 y2), D.s y3], fl := [Own.deep, Own.deep] })]
    GL)
  (outE XX 5 Tryd.f5)
noncomputable def sNodesRead.P8b (y0 : ByteArray) (y1 : Int) (y2 : Bool) (y3 : Int) (y4 : List (List D)) (y5 : List (List D)) (y6 : Int) (y7 : List (List D)) (y8 : List (List D)) : Option (Ex × St) := evB XX 5 (lpL XX 5) 8 (bodyAt 4 sNodesRead.c)
  (mkG 0 67
    [(0, AV.one (A1.v (Value.string y0))), (2, AV.one (A1.p true 2 [] 0)), (4, AV.one (A1.r 4 [] 0)), (5, AV.one (A1.p true 5 [] 0)), (6, AV.one (A1.v (Value.int IntKind.i64 y1))),
      (7, AV.one (A1.r 7 [] 0)), (30, AV.one (A1.v (Value.bool y2)))]
    [(2, some { kind := Kind.box, row := [D.v (Value.int IntKind.i64 y3), D.s y4], fl := [Own.deep, Own.deep] }), (4, some { kind := Kind.virt, row := [D.s y5], fl := [Own.deep] }),
      (5, some { kind := Kind.box, row := [D.v (Value.int IntKind.i64 y6), D.s y7], fl := [Own.deep, Own.top] }), (7, some { kind := Kind.virt, row := [D.s y8], fl := [Own.deep] })]
    GL)
  (backL (lpL XX 5) (bodyAt 4 sNodesRead.c) (XX.live 5 4))
noncomputable def sNodesRead.x4b (y0 : ByteArray) (y1 : Int) (y2 : List (List D)) (y3 : Int) (y4 : List (List D)) : Ex × St := (Ex.exit 0,
  mkG 0 67 [(0, AV.one (A1.v (Value.string y0))), (2, AV.one (A1.p true 2 [] 0)), (5, AV.one (A1.p true 5 [] 0))]
    [(2, some { kind := Kind.box, row := [D.v (Value.int IntKind.i64 y1), D.s y2], fl := [Own.deep, Own.deep] }),
      (5, some { kind := Kind.box, row := [D.v (Value.int IntKind.i64 y3), D.s y4], fl := [Own.deep, Own.top] })]
    GL)
noncomputable def sNodesRead.q4b (y0 : ByteArray) (y1 : Bool) (y2 : Int) (y3 : List (List D)) (y4 : Int) (y5 : List (List D)) : Ex × St := (Ex.ret,
  mkG 0 67 [(0, AV.one (A1.v (Value.string y0))), (2, AV.one (A1.p true 2 [] 0)), (3, AV.one (A1.v (Value.bool y1))), (5, AV.one (A1.p true 5 [] 0))]
    [(2, some { kind := Kind.box, row := [D.v (Value.int IntKind.i64 y2), D.s y3], fl := [Own.deep, Own.deep] }),
      (5, some { kind := Kind.box, row := [D.v (Value.int IntKind.i64 y4), D.s y5], fl := [Own.deep, Own.top] })]
    GL)
noncomputable def sNodesRead.P9b (y0 : ByteArray) (y1 : Int) (y2 : Int) (y3 : List (List D)) (y4 : List (List D)) (y5 : Int) (y6 : List (List D)) (y7 : List (List D)) : Option (Ex × St) := evB XX 5 (lpL XX 5) 9 (bodyAt 4 sNodesRead.c)
  (mkG 0 67
    [(0, AV.one (A1.v (Value.string y0))), (2, AV.one (A1.p true 2 [] 0)), (4, AV.one (A1.r 4 [] 0)), (5, AV.one (A1.p true 5 [] 0)), (6, AV.one (A1.v (Value.int IntKind.i64 y1))),
      (7, AV.one (A1.r 7 [] 0))]
    [(2, some { kind := Kind.box, row := [D.v (Value.int IntKind.i64 y2), D.s y3], fl := [Own.deep, Own.deep] }), (4, some { kind := Kind.virt, row := [D.s y4], fl := [Own.deep] }),
      (5, some { kind := Kind.box, row := [D.v (Value.int IntKind.i64 y5), D.s y6], fl := [Own.deep, Own.top] }), (7, some { kind := Kind.virt, row := [D.s y7], fl := [Own.deep] })]
    GL)
  (backL (lpL XX 5) (bodyAt 4 sNodesRead.c) (XX.live 5 4))
noncomputable def sNodesRead.P14b (y0 : Bool) (y1 : Int) (y2 : List (List D)) (y3 : Int) (y4 : List (List D)) : Option Res := evB XX 5 (lpL XX 5) 14 sNodesRead.c
  (mkG 0 67 [(2, AV.one (A1.p true 2 [] 0)), (5, AV.one (A1.p true 5 [] 0)), (63, AV.one (A1.v (Value.bool y0)))]
    [(2, some { kind := Kind.box, row := [D.v (Value.int IntKind.i64 y1), D.s y2], fl := [Own.deep, Own.deep] }),
      (5, some { kind := Kind.box, row := [D.v (Value.int IntKind.i64 y3), D.s y4], fl := [Own.deep, Own.top] })]
    GL)
  (outE XX 5 Tryd.f5)
noncomputable def sNodesRead.P15b (y0 : Int) (y1 : List (List D)) (y2 : Int) (y3 : List (List D)) : Option Res := evB XX 5 (lpL XX 5) 15 sNodesRead.c
  (mkG 0 67 [(2, AV.one (A1.p true 2 [] 0)), (5, AV.one (A1.p true 5 [] 0))]
    [(2, some { kind := Kind.box, row := [D.v (Value.int IntKind.i64 y0), D.s y1], fl := [Own.deep, Own.deep] }),
      (5, some { kind := Kind.box, row := [D.v (Value.int IntKind.i64 y2), D.s y3], fl := [Own.deep, Own.top] })]
    GL)
  (outE XX 5 Tryd.f5)
theorem sNodesRead.e (a0 : ByteArray) :
    sNodesRead [AV.one (A1.v (Value.string a0))] [] =
    (sl1Cut [AV.one (A1.v (Value.string a0)), AV.one (A1.v (Value.int IntKind.u8 10))] []).bind fun val =>
  bif fitsCells [R1.own Own.deep] val.1 && true then (sNodesRead.L4 a0 0 0 [] (val.1.getD 0 TC.d).es 0 []).bind sNodesRead.A4 else none := by
  refine (sNodesRead.run _ _ (by kernel_rfl)).trans ?_
  delta sNodesRead sl1Cut sNodesRead.L4 sNodesRead.A4 XX
  refine join_use [14, 15] (by kernel_rfl) fun J e1 => ?_
  have eA := evA_J [14, 15] 4 (by kernel_rfl) e1
  try simp only [eA]
  clear eA
  try simp only [← e1]
  clear e1
  show _ = _
  generalize lpL (Y.ctx (lim' Y)) 5 = lp
  generalize lim' Y = call
  kernel_rfl
theorem sNodesRead.s4 (y0 : ByteArray) (y1 : Int) (y2 : Int) (y3 : List (List D)) (y4 : List (List D)) (y5 : Int) (y6 : List (List D)) :
    sNodesRead.L4 y0 y1 y2 y3 y4 y5 y6 =
    bif decide (IntKind.i64.wrap (y1 + 1) < (↑y4.length : Int)) then
  bif decide (0 ≤ y1) && decide (y1 < (↑y4.length : Int)) && decide ((y4.getD y1.toNat []).length = 1) then
    bif fitsRow [CK.str] (y4.getD y1.toNat []) 0 && decide (1 ≤ (y4.getD y1.toNat []).length) then
      (sl1Cut [AV.one (A1.v (Value.string ((y4.getD y1.toNat []).getD 0 D.h).str)), AV.one (A1.v (Value.int IntKind.u8 32))] []).bind fun val =>
        bif fitsCells [R1.own Own.deep] val.1 && true then
          bif (↑(val.1.getD 0 TC.d).es.length : Int) != 2 then sNodesRead.P8 y0 y1 true y2 y3 y4 y5 y6 (val.1.getD 0 TC.d).es
          else sNodesRead.P8 y0 y1 (decide (y1 > 30)) y2 y3 y4 y5 y6 (val.1.getD 0 TC.d).es
        else none
    else none
  else none
else some (sNodesRead.x4 y0 y2 y3 y5 y6) := by
  refine (lpL_eq (Y := Y) (c := lim' Y) (fn := 5) (rid := 4) (b := bodyAt 4 sNodesRead.c) (by kernel_rfl) _).trans ?_
  delta sNodesRead.L4 sl1Cut sNodesRead.P8 sNodesRead.x4 XX
  refine join_use [8, 9] (by kernel_rfl) fun J e1 => ?_
  try simp only [← e1]
  clear e1
  generalize lpL (Y.ctx (lim' Y)) 5 = lp
  generalize lim' Y = call
  kernel_rfl
theorem sNodesRead.p8 (y0 : ByteArray) (y1 : Int) (y2 : Bool) (y3 : Int) (y4 : List (List D)) (y5 : List (List D)) (y6 : Int) (y7 : List (List D)) (y8 : List (List D)) :
    sNodesRead.P8 y0 y1 y2 y3 y4 y5 y6 y7 y8 =
    bif y2 then some (sNodesRead.q4 y0 false 0 [] y6 y7) else sNodesRead.P9 y0 y1 y3 y4 y5 y6 y7 y8 := by
  delta sNodesRead.P8 sNodesRead.q4 sNodesRead.P9 XX
  refine join_at [8, 9] 8 (by kernel_rfl) fun J e1 => ?_
  try simp only [← e1]
  clear e1
  generalize lpL (Y.ctx (lim' Y)) 5 = lp
  generalize lim' Y = call
  kernel_rfl
theorem sNodesRead.a4x4 (y0 : ByteArray) (y1 : Int) (y2 : List (List D)) (y3 : Int) (y4 : List (List D)) :
    sNodesRead.A4 (sNodesRead.x4 y0 y1 y2 y3 y4) =
    (sl33Ok [AV.g [A1.v (Value.int IntKind.i64 y3), A1.s y4]] []).bind fun val =>
  bif fitsCells [R1.bool] val.1 && true then
    bif !(val.1.getD 0 TC.d).bool then sNodesRead.P14 true y1 y2 y3 y4
    else
      (sNodesWrite [AV.g [A1.v (Value.int IntKind.i64 y3), A1.s y4]] []).bind fun val =>
        bif fitsCells [R1.str] val.1 && true then sNodesRead.P14 (!(val.1.getD 0 TC.d).str.toList == y0.toList) y1 y2 y3 y4 else none
  else none := by
  delta sNodesRead.A4 sNodesRead.x4 sl33Ok sNodesRead.P14 sNodesWrite XX
  refine join_behind [14, 15] 4 (by kernel_rfl) fun J e1 => ?_
  have eA := evA_J [14, 15] 4 (by kernel_rfl) e1
  try simp only [eA]
  clear eA
  try simp only [← e1]
  clear e1
  show _ = _
  generalize lpL (Y.ctx (lim' Y)) 5 = lp
  generalize lim' Y = call
  kernel_rfl
theorem sNodesRead.a4q4 (y0 : ByteArray) (y1 : Bool) (y2 : Int) (y3 : List (List D)) (y4 : Int) (y5 : List (List D)) :
    sNodesRead.A4 (sNodesRead.q4 y0 y1 y2 y3 y4 y5) =
    some { cells := [TC.v (Value.int IntKind.i64 y2), TC.o Own.deep y3, TC.v (Value.bool y1)], objs := [] } := by
  delta sNodesRead.A4 sNodesRead.q4 XX
  refine join_behind [14, 15] 4 (by kernel_rfl) fun J e1 => ?_
  have eA := evA_J [14, 15] 4 (by kernel_rfl) e1
  try simp only [eA]
  clear eA
  try simp only [← e1]
  clear e1
  show _ = _
  generalize lpL (Y.ctx (lim' Y)) 5 = lp
  generalize lim' Y = call
  kernel_rfl
theorem sNodesRead.p9 (y0 : ByteArray) (y1 : Int) (y2 : Int) (y3 : List (List D)) (y4 : List (List D)) (y5 : Int) (y6 : List (List D)) (y7 : List (List D)) :
    sNodesRead.P9 y0 y1 y2 y3 y4 y5 y6 y7 =
    bif y1 == 0 then
  bif decide (1 < (↑y7.length : Int)) && decide ((y7.getD 1 []).length = 1) then
    bif fitsRow [CK.str] (y7.getD 1 []) 0 && decide (1 ≤ (y7.getD 1 []).length) then
      (sl22Num [AV.one (A1.v (Value.string ((y7.getD 1 []).getD 0 D.h).str))] []).bind fun val =>
        bif fitsCells [R1.int IntKind.i64] val.1 && true then sNodesRead.L4 y0 (IntKind.i64.wrap (y1 + 1)) y2 y3 y4 (val.1.getD 0 TC.d).int y6 else none
    else none
  else none
else
  bif decide (1 < (↑y7.length : Int)) && decide ((y7.getD 1 []).length = 1) then
    bif fitsRow [CK.str] (y7.getD 1 []) 0 && decide (1 ≤ (y7.getD 1 []).length) then
      (sl1Cut [AV.one (A1.v (Value.string ((y7.getD 1 []).getD 0 D.h).str)), AV.one (A1.v (Value.int IntKind.u8 47))] []).bind fun val =>
        bif fitsCells [R1.own Own.deep] val.1 && true then
          bif decide (0 < (↑y7.length : Int)) && decide ((y7.getD 0 []).length = 1) then
            bif fitsRow [CK.str] (y7.getD 0 []) 0 && decide (1 ≤ (y7.getD 0 []).length) then
              (sl22Num [AV.one (A1.v (Value.string ((y7.getD 0 []).getD 0 D.h).str))] []).bind fun val_1 =>
                bif fitsCells [R1.int IntKind.i64] val_1.1 && true then
                  bif
                      decide ((some 1).getD 0 ≤ (↑(val.1.getD 0 TC.d).es.length : Int)) && decide ((↑(val.1.getD 0 TC.d).es.length : Int) ≤ (↑(val.1.getD 0 TC.d).es.length : Int)) &&
                        (false || decide (((val.1.getD 0 TC.d).es.getD 0 []).length = 1)) then
                    bif rowsLen 2 y6 && true && true && true && decide ((y6.length + 1) * 33 ≤ 70368744177664) then
                      sNodesRead.L4b y0 (IntKind.i64.wrap (y1 + 1)) y2 y3 y4 y5
                        (y6 ++ [[D.v (Value.int IntKind.i64 (val_1.1.getD 0 TC.d).int), D.s (List.drop 1 (List.take (↑(val.1.getD 0 TC.d).es.length : Int).toNat (val.1.getD 0 TC.d).es))]])
                    else none
                  else none
                else none
            else none
          else none
        else none
    else none
  else none := by
  delta sNodesRead.P9 sl22Num sNodesRead.L4 sl1Cut sNodesRead.L4b XX
  refine join_at [8, 9] 9 (by kernel_rfl) fun J e1 => ?_
  try simp only [← e1]
  clear e1
  generalize lpL (Y.ctx (lim' Y)) 5 = lp
  generalize lim' Y = call
  kernel_rfl
theorem sNodesRead.p14 (y0 : Bool) (y1 : Int) (y2 : List (List D)) (y3 : Int) (y4 : List (List D)) :
    sNodesRead.P14 y0 y1 y2 y3 y4 =
    bif y0 then some { cells := [TC.v (Value.int IntKind.i64 0), TC.o Own.deep [], TC.v (Value.bool false)], objs := [] } else sNodesRead.P15 y1 y2 y3 y4 := by
  delta sNodesRead.P14 sNodesRead.P15 XX
  refine join_at [14, 15] 14 (by kernel_rfl) fun J e1 => ?_
  try simp only [← e1]
  clear e1
  generalize lpL (Y.ctx (lim' Y)) 5 = lp
  generalize lim' Y = call
  kernel_rfl
theorem sNodesRead.s4b (y0 : ByteArray) (y1 : Int) (y2 : Int) (y3 : List (List D)) (y4 : List (List D)) (y5 : Int) (y6 : List (List D)) :
    sNodesRead.L4b y0 y1 y2 y3 y4 y5 y6 =
    bif decide (IntKind.i64.wrap (y1 + 1) < (↑y4.length : Int)) then
  bif decide (0 ≤ y1) && decide (y1 < (↑y4.length : Int)) && decide ((y4.getD y1.toNat []).length = 1) then
    bif fitsRow [CK.str] (y4.getD y1.toNat []) 0 && decide (1 ≤ (y4.getD y1.toNat []).length) then
      (sl1Cut [AV.one (A1.v (Value.string ((y4.getD y1.toNat []).getD 0 D.h).str)), AV.one (A1.v (Value.int IntKind.u8 32))] []).bind fun val =>
        bif fitsCells [R1.own Own.deep] val.1 && true then
          bif (↑(val.1.getD 0 TC.d).es.length : Int) != 2 then sNodesRead.P8b y0 y1 true y2 y3 y4 y5 y6 (val.1.getD 0 TC.d).es
          else sNodesRead.P8b y0 y1 (decide (y1 > 30)) y2 y3 y4 y5 y6 (val.1.getD 0 TC.d).es
        else none
    else none
  else none
else some (sNodesRead.x4b y0 y2 y3 y5 y6) := by
  refine (lpL_eq (Y := Y) (c := lim' Y) (fn := 5) (rid := 4) (b := bodyAt 4 sNodesRead.c) (by kernel_rfl) _).trans ?_
  delta sNodesRead.L4b sl1Cut sNodesRead.P8b sNodesRead.x4b XX
  refine join_use [8, 9] (by kernel_rfl) fun J e1 => ?_
  try simp only [← e1]
  clear e1
  generalize lpL (Y.ctx (lim' Y)) 5 = lp
  generalize lim' Y = call
  kernel_rfl
theorem sNodesRead.p15 (y0 : Int) (y1 : List (List D)) (y2 : Int) (y3 : List (List D)) :
    sNodesRead.P15 y0 y1 y2 y3 =
    (sl33Copy [AV.g [A1.v (Value.int IntKind.i64 y2), A1.s y3]] []).bind fun val =>
  bif fitsCells [R1.int IntKind.i64, R1.own Own.deep] val.1 && true then
    some { cells := [TC.v (Value.int IntKind.i64 (val.1.getD 0 TC.d).int), TC.o Own.deep (val.1.getD 1 TC.d).es, TC.v (Value.bool true)], objs := [] }
  else none := by
  delta sNodesRead.P15 sl33Copy XX
  refine join_at [14, 15] 15 (by kernel_rfl) fun J e1 => ?_
  try simp only [← e1]
  clear e1
  generalize lpL (Y.ctx (lim' Y)) 5 = lp
  generalize lim' Y = call
  kernel_rfl
theorem sNodesRead.p8b (y0 : ByteArray) (y1 : Int) (y2 : Bool) (y3 : Int) (y4 : List (List D)) (y5 : List (List D)) (y6 : Int) (y7 : List (List D)) (y8 : List (List D)) :
    sNodesRead.P8b y0 y1 y2 y3 y4 y5 y6 y7 y8 =
    bif y2 then some (sNodesRead.q4b y0 false 0 [] y6 y7) else sNodesRead.P9b y0 y1 y3 y4 y5 y6 y7 y8 := by
  delta sNodesRead.P8b sNodesRead.q4b sNodesRead.P9b XX
  refine join_at [8, 9] 8 (by kernel_rfl) fun J e1 => ?_
  try simp only [← e1]
  clear e1
  generalize lpL (Y.ctx (lim' Y)) 5 = lp
  generalize lim' Y = call
  kernel_rfl
theorem sNodesRead.a4x4b (y0 : ByteArray) (y1 : Int) (y2 : List (List D)) (y3 : Int) (y4 : List (List D)) :
    sNodesRead.A4 (sNodesRead.x4b y0 y1 y2 y3 y4) =
    (sl33Ok [AV.g [A1.v (Value.int IntKind.i64 y3), A1.s y4]] []).bind fun val =>
  bif fitsCells [R1.bool] val.1 && true then
    bif !(val.1.getD 0 TC.d).bool then sNodesRead.P14b true y1 y2 y3 y4
    else
      (sNodesWrite [AV.g [A1.v (Value.int IntKind.i64 y3), A1.s y4]] []).bind fun val =>
        bif fitsCells [R1.str] val.1 && true then sNodesRead.P14b (!(val.1.getD 0 TC.d).str.toList == y0.toList) y1 y2 y3 y4 else none
  else none := by
  delta sNodesRead.A4 sNodesRead.x4b sl33Ok sNodesRead.P14b sNodesWrite XX
  refine join_behind [14, 15] 4 (by kernel_rfl) fun J e1 => ?_
  have eA := evA_J [14, 15] 4 (by kernel_rfl) e1
  try simp only [eA]
  clear eA
  try simp only [← e1]
  clear e1
  show _ = _
  generalize lpL (Y.ctx (lim' Y)) 5 = lp
  generalize lim' Y = call
  kernel_rfl
theorem sNodesRead.a4q4b (y0 : ByteArray) (y1 : Bool) (y2 : Int) (y3 : List (List D)) (y4 : Int) (y5 : List (List D)) :
    sNodesRead.A4 (sNodesRead.q4b y0 y1 y2 y3 y4 y5) =
    some { cells := [TC.v (Value.int IntKind.i64 y2), TC.o Own.deep y3, TC.v (Value.bool y1)], objs := [] } := by
  delta sNodesRead.A4 sNodesRead.q4b XX
  refine join_behind [14, 15] 4 (by kernel_rfl) fun J e1 => ?_
  have eA := evA_J [14, 15] 4 (by kernel_rfl) e1
  try simp only [eA]
  clear eA
  try simp only [← e1]
  clear e1
  show _ = _
  generalize lpL (Y.ctx (lim' Y)) 5 = lp
  generalize lim' Y = call
  kernel_rfl
theorem sNodesRead.p9b (y0 : ByteArray) (y1 : Int) (y2 : Int) (y3 : List (List D)) (y4 : List (List D)) (y5 : Int) (y6 : List (List D)) (y7 : List (List D)) :
    sNodesRead.P9b y0 y1 y2 y3 y4 y5 y6 y7 =
    bif y1 == 0 then
  bif decide (1 < (↑y7.length : Int)) && decide ((y7.getD 1 []).length = 1) then
    bif fitsRow [CK.str] (y7.getD 1 []) 0 && decide (1 ≤ (y7.getD 1 []).length) then
      (sl22Num [AV.one (A1.v (Value.string ((y7.getD 1 []).getD 0 D.h).str))] []).bind fun val =>
        bif fitsCells [R1.int IntKind.i64] val.1 && true then sNodesRead.L4b y0 (IntKind.i64.wrap (y1 + 1)) y2 y3 y4 (val.1.getD 0 TC.d).int y6 else none
    else none
  else none
else
  bif decide (1 < (↑y7.length : Int)) && decide ((y7.getD 1 []).length = 1) then
    bif fitsRow [CK.str] (y7.getD 1 []) 0 && decide (1 ≤ (y7.getD 1 []).length) then
      (sl1Cut [AV.one (A1.v (Value.string ((y7.getD 1 []).getD 0 D.h).str)), AV.one (A1.v (Value.int IntKind.u8 47))] []).bind fun val =>
        bif fitsCells [R1.own Own.deep] val.1 && true then
          bif decide (0 < (↑y7.length : Int)) && decide ((y7.getD 0 []).length = 1) then
            bif fitsRow [CK.str] (y7.getD 0 []) 0 && decide (1 ≤ (y7.getD 0 []).length) then
              (sl22Num [AV.one (A1.v (Value.string ((y7.getD 0 []).getD 0 D.h).str))] []).bind fun val_1 =>
                bif fitsCells [R1.int IntKind.i64] val_1.1 && true then
                  bif
                      decide ((some 1).getD 0 ≤ (↑(val.1.getD 0 TC.d).es.length : Int)) && decide ((↑(val.1.getD 0 TC.d).es.length : Int) ≤ (↑(val.1.getD 0 TC.d).es.length : Int)) &&
                        (false || decide (((val.1.getD 0 TC.d).es.getD 0 []).length = 1)) then
                    bif rowsLen 2 y6 && true && true && true && decide ((y6.length + 1) * 33 ≤ 70368744177664) then
                      sNodesRead.L4b y0 (IntKind.i64.wrap (y1 + 1)) y2 y3 y4 y5
                        (y6 ++ [[D.v (Value.int IntKind.i64 (val_1.1.getD 0 TC.d).int), D.s (List.drop 1 (List.take (↑(val.1.getD 0 TC.d).es.length : Int).toNat (val.1.getD 0 TC.d).es))]])
                    else none
                  else none
                else none
            else none
          else none
        else none
    else none
  else none := by
  delta sNodesRead.P9b sl22Num sNodesRead.L4b sl1Cut XX
  refine join_at [8, 9] 9 (by kernel_rfl) fun J e1 => ?_
  try simp only [← e1]
  clear e1
  generalize lpL (Y.ctx (lim' Y)) 5 = lp
  generalize lim' Y = call
  kernel_rfl
theorem sNodesRead.p14b (y0 : Bool) (y1 : Int) (y2 : List (List D)) (y3 : Int) (y4 : List (List D)) :
    sNodesRead.P14b y0 y1 y2 y3 y4 =
    bif y0 then some { cells := [TC.v (Value.int IntKind.i64 0), TC.o Own.deep [], TC.v (Value.bool false)], objs := [] } else sNodesRead.P15b y1 y2 y3 y4 := by
  delta sNodesRead.P14b sNodesRead.P15b XX
  refine join_at [14, 15] 14 (by kernel_rfl) fun J e1 => ?_
  try simp only [← e1]
  clear e1
  generalize lpL (Y.ctx (lim' Y)) 5 = lp
  generalize lim' Y = call
  kernel_rfl
theorem sNodesRead.p15b (y0 : Int) (y1 : List (List D)) (y2 : Int) (y3 : List (List D)) :
    sNodesRead.P15b y0 y1 y2 y3 =
    (sl33Copy [AV.g [A1.v (Value.int IntKind.i64 y2), A1.s y3]] []).bind fun val =>
  bif fitsCells [R1.int IntKind.i64, R1.own Own.deep] val.1 && true then
    some { cells := [TC.v (Value.int IntKind.i64 (val.1.getD 0 TC.d).int), TC.o Own.deep (val.1.getD 1 TC.d).es, TC.v (Value.bool true)], objs := [] }
  else none := by
  delta sNodesRead.P15b sl33Copy XX
  refine join_at [14, 15] 15 (by kernel_rfl) fun J e1 => ?_
  try simp only [← e1]
  clear e1
  generalize lpL (Y.ctx (lim' Y)) 5 = lp
  generalize lim' Y = call
  kernel_rfl


noncomputable def iNodesRead.L3 (y0 : ByteArray) (y1 : List (List D)) (y2 : Int) (y3 : Int) (y4 : Int) (y5 : List (List D)) (y6 : Int) (y7 : List (List D)) : Option (Ex × St) := lpL XX 6 (bodyAt 3 iNodesRead.c)
  (mkG 0 52
    [(0, AV.one (A1.v (Value.string y0))), (2, AV.one (A1.p true 2 [] 0)), (4, AV.one (A1.p true 4 [] 0)), (13, AV.one (A1.s y1)), (14, AV.one (A1.v (Value.int IntKind.i64 y2))),
      (15, AV.one (A1.v (Value.int IntKind.i64 y3)))]
    [(2, some { kind := Kind.box, row := [D.v (Value.int IntKind.i64 y4), D.s y5], fl := [Own.deep, Own.deep] }),
      (4, some { kind := Kind.box, row := [D.v (Value.int IntKind.i64 y6), D.s y7], fl := [Own.deep, Own.deep] })]
    GL)
noncomputable def iNodesRead.A3 : Ex × St → Option Res := fun r => evA XX 6 (lpL XX 6) 3 iNodesRead.c r.fst r.snd (outE XX 6 Tryd.f6)
noncomputable def iNodesRead.x3 (y0 : ByteArray) (y1 : Int) (y2 : List (List D)) (y3 : Int) (y4 : List (List D)) : Ex × St := (Ex.exit 0,
  mkG 0 52 [(0, AV.one (A1.v (Value.string y0))), (2, AV.one (A1.p true 2 [] 0)), (4, AV.one (A1.p true 4 [] 0))]
    [(2, some { kind := Kind.box, row := [D.v (Value.int IntKind.i64 y1), D.s y2], fl := [Own.deep, Own.deep] }),
      (4, some { kind := Kind.box, row := [D.v (Value.int IntKind.i64 y3), D.s y4], fl := [Own.deep, Own.deep] })]
    GL)
noncomputable def iNodesRead.P11 (y0 : Bool) (y1 : Int) (y2 : List (List D)) (y3 : Int) (y4 : List (List D)) : Option Res := evB XX 6 (lpL XX 6) 11 iNodesRead.c
  (mkG 0 52 [(2, AV.one (A1.p true 2 [] 0)), (4, AV.one (A1.p true 4 [] 0)), (49, AV.one (A1.v (Value.bool y0)))]
    [(2, some { kind := Kind.box, row := [D.v (Value.int IntKind.i64 y1), D.s y2], fl := [Own.deep, Own.deep] }),
      (4, some { kind := Kind.box, row := [D.v (Value.int IntKind.i64 y3), D.s y4], fl := [Own.deep, Own.deep] })]
    GL)
  (outE XX 6 Tryd.f6)
theorem iNodesRead.e (a0 : ByteArray) :
    iNodesRead [AV.one (A1.v (Value.string a0))] [] =
    (ilinesOf [AV.one (A1.v (Value.string a0))] []).bind fun val =>
  bif fitsCells [R1.sh] val.1 && true then (iNodesRead.L3 a0 (val.1.getD 0 TC.d).es (↑(val.1.getD 0 TC.d).es.length : Int) 0 0 [] 0 []).bind iNodesRead.A3 else none := by
  refine (iNodesRead.run _ _ (by kernel_rfl)).trans ?_
  delta iNodesRead ilinesOf iNodesRead.L3 iNodesRead.A3 XX
  refine join_use [11] (by kernel_rfl) fun J e1 => ?_
  have eA := evA_J [11] 3 (by kernel_rfl) e1
  try simp only [eA]
  clear eA
  try simp only [← e1]
  clear e1
  show _ = _
  generalize lpL (Y.ctx (lim' Y)) 6 = lp
  generalize lim' Y = call
  kernel_rfl
theorem iNodesRead.s3 (y0 : ByteArray) (y1 : List (List D)) (y2 : Int) (y3 : Int) (y4 : Int) (y5 : List (List D)) (y6 : Int) (y7 : List (List D)) :
    iNodesRead.L3 y0 y1 y2 y3 y4 y5 y6 y7 =
    bif decide (y3 < y2) then
  bif decide (0 ≤ y3) && decide (y3 < (↑y1.length : Int)) && decide ((y1.getD y3.toNat []).length = 1) then
    bif fitsRow [CK.str] (y1.getD y3.toNat []) 0 && decide (1 ≤ (y1.getD y3.toNat []).length) then
      (strings_Cut [AV.one (A1.v (Value.string ((y1.getD y3.toNat []).getD 0 D.h).str)), AV.one (A1.v (Value.string (ByteArray.mk #[32])))] []).bind fun val =>
        bif fitsCells [R1.str, R1.str, R1.bool] val.1 && true then
          bif y3 == 0 then
            (inumRead [AV.one (A1.v (Value.string (val.1.getD 1 TC.d).str))] []).bind fun val =>
              bif fitsCells [R1.int IntKind.i64] val.1 && true then iNodesRead.L3 y0 y1 y2 (IntKind.i64.wrap (y3 + 1)) y4 y5 (val.1.getD 0 TC.d).int y7 else none
          else
            (inumRead [AV.one (A1.v (Value.string (val.1.getD 0 TC.d).str))] []).bind fun val_1 =>
              bif fitsCells [R1.int IntKind.i64] val_1.1 && true then
                (ipathRead [AV.one (A1.v (Value.string (val.1.getD 1 TC.d).str))] []).bind fun val =>
                  bif fitsCells [R1.own Own.deep] val.1 && true then
                    bif rowsLen 2 y7 && true && true && true && decide ((y7.length + 1) * 33 ≤ 70368744177664) then
                      iNodesRead.L3 y0 y1 y2 (IntKind.i64.wrap (y3 + 1)) y4 y5 y6 (y7 ++ [[D.v (Value.int IntKind.i64 (val_1.1.getD 0 TC.d).int), D.s (val.1.getD 0 TC.d).es]])
                    else none
                  else none
              else none
        else none
    else none
  else none
else some (iNodesRead.x3 y0 y4 y5 y6 y7) := by
  refine (lpL_eq (Y := Y) (c := lim' Y) (fn := 6) (rid := 3) (b := bodyAt 3 iNodesRead.c) (by kernel_rfl) _).trans ?_
  delta iNodesRead.L3 strings_Cut inumRead ipathRead iNodesRead.x3 XX
  generalize lpL (Y.ctx (lim' Y)) 6 = lp
  generalize lim' Y = call
  kernel_rfl
theorem iNodesRead.a3x3 (y0 : ByteArray) (y1 : Int) (y2 : List (List D)) (y3 : Int) (y4 : List (List D)) :
    iNodesRead.A3 (iNodesRead.x3 y0 y1 y2 y3 y4) =
    bif y0.toList == [] then iNodesRead.P11 true y1 y2 y3 y4
else
  (iNodesWrite [AV.g [A1.v (Value.int IntKind.i64 y3), A1.s y4]] []).bind fun val =>
    bif fitsCells [R1.str] val.1 && true then iNodesRead.P11 (!(val.1.getD 0 TC.d).str.toList == y0.toList) y1 y2 y3 y4 else none := by
  delta iNodesRead.A3 iNodesRead.x3 iNodesRead.P11 iNodesWrite XX
  refine join_behind [11] 3 (by kernel_rfl) fun J e1 => ?_
  have eA := evA_J [11] 3 (by kernel_rfl) e1
  try simp only [eA]
  clear eA
  try simp only [← e1]
  clear e1
  show _ = _
  generalize lpL (Y.ctx (lim' Y)) 6 = lp
  generalize lim' Y = call
  kernel_rfl
theorem iNodesRead.p11 (y0 : Bool) (y1 : Int) (y2 : List (List D)) (y3 : Int) (y4 : List (List D)) :
    iNodesRead.P11 y0 y1 y2 y3 y4 =
    bif y0 then some { cells := [TC.v (Value.int IntKind.i64 0), TC.o Own.deep [], TC.v (Value.bool false)], objs := [] }
else some { cells := [TC.v (Value.int IntKind.i64 y3), TC.o Own.deep y4, TC.v (Value.bool true)], objs := [] } := by
  delta iNodesRead.P11 XX
  refine join_at [11] 11 (by kernel_rfl) fun J e1 => ?_
  try simp only [← e1]
  clear e1
  generalize lpL (Y.ctx (lim' Y)) 6 = lp
  generalize lim' Y = call
  kernel_rfl


theorem weqNodes.e (a0 : Int) (a1 : List (List D)) (a2 : Int) (a3 : List (List D)) :
    weqNodes [AV.g [A1.v (Value.int IntKind.i64 a0), A1.s a1], AV.g [A1.v (Value.int IntKind.i64 a2), A1.s a3]] [] =
    bif a0 != a2 then some { cells := [TC.v (Value.bool false)], objs := [] }
else
  (weqNodeOfS [AV.one (A1.s a1), AV.one (A1.s a3)] []).bind fun val =>
    bif fitsCells [R1.bool] val.1 && true then bif !(val.1.getD 0 TC.d).bool then some { cells := [TC.v (Value.bool false)], objs := [] } else some { cells := [TC.v (Value.bool true)], objs := [] }
    else none := by
  refine (weqNodes.run _ _ (by kernel_rfl)).trans ?_
  delta weqNodes weqNodeOfS XX
  generalize lpL (Y.ctx (lim' Y)) 7 = lp
  generalize lim' Y = call
  kernel_rfl


theorem wmarkNodes.e (a0 : Int) (a1 : List (List D)) (a2 : Int) :
    wmarkNodes [AV.g [A1.v (Value.int IntKind.i64 a0), A1.r 0 [] 0], AV.one (A1.v (Value.int IntKind.i64 a2))] [{ kind := Kind.virt, row := [D.s a1], fl := [Own.deep] }] =
    (wmarkNodeOfS [AV.one (A1.r 0 [] 0), AV.one (A1.v (Value.int IntKind.i64 a2))] [{ kind := Kind.virt, row := [D.s a1], fl := [Own.deep] }]).bind fun val =>
  bif fitsCells [R1.int IntKind.i64] val.1 && fitsCos [{ ob := { kind := Kind.virt, row := [D.s a1], fl := [Own.deep] }, src := Src.sl 0 [] 0 }] val.2 then
    some
      { cells := [TC.v (Value.int IntKind.i64 (val.1.getD 0 TC.d).int)],
        objs := [{ kind := Kind.virt, row := [D.s ((val.2.getD 0 { kind := Kind.ro, row := [], fl := [] }).2.getD 0 D.h).es], fl := [Own.deep] }] }
  else none := by
  refine (wmarkNodes.run _ _ (by kernel_rfl)).trans ?_
  delta wmarkNodes wmarkNodeOfS XX
  generalize lpL (Y.ctx (lim' Y)) 8 = lp
  generalize lim' Y = call
  kernel_rfl


theorem wheldNodes.e (a0 : Int) (a1 : List (List D)) (a2 : Int) :
    wheldNodes [AV.g [A1.v (Value.int IntKind.i64 a0), A1.s a1], AV.one (A1.v (Value.int IntKind.i64 a2))] [] =
    (wheldNodeOfS [AV.one (A1.s a1), AV.one (A1.v (Value.int IntKind.i64 a2))] []).bind fun val =>
  bif fitsCells [R1.int IntKind.i64] val.1 && true then
    bif decide ((val.1.getD 0 TC.d).int < 0) then some { cells := [TC.v (Value.int IntKind.i64 (-1))], objs := [] }
    else some { cells := [TC.v (Value.int IntKind.i64 (val.1.getD 0 TC.d).int)], objs := [] }
  else none := by
  refine (wheldNodes.run _ _ (by kernel_rfl)).trans ?_
  delta wheldNodes wheldNodeOfS XX
  generalize lpL (Y.ctx (lim' Y)) 9 = lp
  generalize lim' Y = call
  kernel_rfl


noncomputable def sl1Cut.L4 (y0 : ByteArray) (y1 : Int) (y2 : Int) (y3 : Int) (y4 : List (List D)) : Option (Ex × St) := lpL XX 15 (bodyAt 4 sl1Cut.c)
  (mkG 0 35
    [(0, AV.one (A1.v (Value.string y0))), (1, AV.one (A1.v (Value.int IntKind.u8 y1))), (5, AV.one (A1.r 5 [] 0)), (6, AV.one (A1.v (Value.int IntKind.i64 y2))),
      (7, AV.one (A1.v (Value.int IntKind.i64 y3)))]
    [(5, some { kind := Kind.virt, row := [D.s y4], fl := [Own.deep] })] GL)
noncomputable def sl1Cut.A4 : Ex × St → Option Res := fun r => evA XX 15 (lpL XX 15) 4 sl1Cut.c r.fst r.snd (outE XX 15 Tryd.f15)
noncomputable def sl1Cut.x4 (y0 : ByteArray) (y1 : Int) (y2 : List (List D)) : Ex × St := (Ex.exit 0,
  mkG 0 35 [(0, AV.one (A1.v (Value.string y0))), (5, AV.one (A1.r 5 [] 0)), (6, AV.one (A1.v (Value.int IntKind.i64 y1)))] [(5, some { kind := Kind.virt, row := [D.s y2], fl := [Own.deep] })] GL)
theorem sl1Cut.e (a0 : ByteArray) (a1 : Int) :
    sl1Cut [AV.one (A1.v (Value.string a0)), AV.one (A1.v (Value.int IntKind.u8 a1))] [] =
    (sl1Cut.L4 a0 a1 0 0 []).bind sl1Cut.A4 := by
  refine (sl1Cut.run _ _ (by kernel_rfl)).trans ?_
  delta sl1Cut sl1Cut.L4 sl1Cut.A4 XX
  generalize lpL (Y.ctx (lim' Y)) 15 = lp
  generalize lim' Y = call
  kernel_rfl
theorem sl1Cut.s4 (y0 : ByteArray) (y1 : Int) (y2 : Int) (y3 : Int) (y4 : List (List D)) :
    sl1Cut.L4 y0 y1 y2 y3 y4 =
    bif decide (y3 < (↑y0.size : Int)) then
  bif decide (0 ≤ y3) && decide (y3 < (↑y0.size : Int)) then
    bif byteAt y0 y3.toNat == y1 then
      bif decide (0 ≤ y2) && decide (y2 ≤ y3) && decide (y3 ≤ (↑y0.size : Int)) then
        bif rowsLen 1 y4 && true && true && true && decide ((y4.length + 1) * 17 ≤ 70368744177664) then
          sl1Cut.L4 y0 y1 (IntKind.i64.wrap (y3 + 1)) (IntKind.i64.wrap (y3 + 1)) (y4 ++ [[D.v (Value.string (y0.extract y2.toNat y3.toNat))]])
        else none
      else none
    else sl1Cut.L4 y0 y1 y2 (IntKind.i64.wrap (y3 + 1)) y4
  else none
else some (sl1Cut.x4 y0 y2 y4) := by
  refine (lpL_eq (Y := Y) (c := lim' Y) (fn := 15) (rid := 4) (b := bodyAt 4 sl1Cut.c) (by kernel_rfl) _).trans ?_
  delta sl1Cut.L4 sl1Cut.x4 XX
  generalize lpL (Y.ctx (lim' Y)) 15 = lp
  generalize lim' Y = call
  kernel_rfl
theorem sl1Cut.a4x4 (y0 : ByteArray) (y1 : Int) (y2 : List (List D)) :
    sl1Cut.A4 (sl1Cut.x4 y0 y1 y2) =
    bif decide (0 ≤ y1) && decide (y1 ≤ (↑y0.size : Int)) && decide ((↑y0.size : Int) ≤ (↑y0.size : Int)) then
  bif rowsLen 1 y2 && true && true && true && decide ((y2.length + 1) * 17 ≤ 70368744177664) then
    some { cells := [TC.o Own.deep (y2 ++ [[D.v (Value.string (y0.extract y1.toNat (↑y0.size : Int).toNat))]])], objs := [] }
  else none
else none := by
  delta sl1Cut.A4 sl1Cut.x4 XX
  generalize lpL (Y.ctx (lim' Y)) 15 = lp
  generalize lim' Y = call
  kernel_rfl


noncomputable def sl22Num.P2 (y0 : ByteArray) (y1 : Bool) : Option Res := evB XX 16 (lpL XX 16) 2 sl22Num.c (mkG 0 44 [(0, AV.one (A1.v (Value.string y0))), (18, AV.one (A1.v (Value.bool y1)))] [] GL) (outE XX 16 Tryd.f16)
noncomputable def sl22Num.P3 (y0 : ByteArray) : Option Res := evB XX 16 (lpL XX 16) 3 sl22Num.c (mkG 0 44 [(0, AV.one (A1.v (Value.string y0)))] [] GL) (outE XX 16 Tryd.f16)
noncomputable def sl22Num.L5 (y0 : ByteArray) (y1 : Int) (y2 : Int) : Option (Ex × St) := lpL XX 16 (bodyAt 5 sl22Num.c) (mkG 0 44 [(0, AV.one (A1.v (Value.string y0))), (3, AV.one (A1.v (Value.int IntKind.i64 y1))), (4, AV.one (A1.v (Value.int IntKind.i64 y2)))] [] GL)
noncomputable def sl22Num.A5 : Ex × St → Option Res := fun r => evA XX 16 (lpL XX 16) 5 sl22Num.c r.fst r.snd (outE XX 16 Tryd.f16)
noncomputable def sl22Num.P8 (y0 : ByteArray) (y1 : Int) (y2 : Int) (y3 : Bool) : Option (Ex × St) := evB XX 16 (lpL XX 16) 8 (bodyAt 5 sl22Num.c)
  (mkG 0 44 [(0, AV.one (A1.v (Value.string y0))), (3, AV.one (A1.v (Value.int IntKind.i64 y1))), (4, AV.one (A1.v (Value.int IntKind.i64 y2))), (34, AV.one (A1.v (Value.bool y3)))] [] GL)
  (backL (lpL XX 16) (bodyAt 5 sl22Num.c) (XX.live 16 5))
noncomputable def sl22Num.x5 (y0 : Int) : Ex × St := (Ex.exit 0, mkG 0 44 [(3, AV.one (A1.v (Value.int IntKind.i64 y0)))] [] GL)
noncomputable def sl22Num.q5 (y0 : Int) (y1 : Int) : Ex × St := (Ex.ret, mkG 0 44 [(2, AV.one (A1.v (Value.int IntKind.i64 y0))), (3, AV.one (A1.v (Value.int IntKind.i64 y1)))] [] GL)
noncomputable def sl22Num.P9 (y0 : ByteArray) (y1 : Int) (y2 : Int) : Option (Ex × St) := evB XX 16 (lpL XX 16) 9 (bodyAt 5 sl22Num.c) (mkG 0 44 [(0, AV.one (A1.v (Value.string y0))), (3, AV.one (A1.v (Value.int IntKind.i64 y1))), (4, AV.one (A1.v (Value.int IntKind.i64 y2)))] [] GL)
  (backL (lpL XX 16) (bodyAt 5 sl22Num.c) (XX.live 16 5))
theorem sl22Num.e (a0 : ByteArray) :
    sl22Num [AV.one (A1.v (Value.string a0))] [] =
    (sl21In [AV.one (A1.v (Value.int IntKind.i64 (↑a0.size : Int))), AV.one (A1.v (Value.int IntKind.i64 1)), AV.one (A1.v (Value.int IntKind.i64 5))] []).bind fun val =>
  bif fitsCells [R1.bool] val.1 && true then
    bif !(val.1.getD 0 TC.d).bool then sl22Num.P2 a0 true
    else bif decide ((↑a0.size : Int) > 1) then bif decide (0 < (↑a0.size : Int)) then sl22Num.P2 a0 (byteAt a0 0 == 48) else none else sl22Num.P2 a0 false
  else none := by
  refine (sl22Num.run _ _ (by kernel_rfl)).trans ?_
  delta sl22Num sl21In sl22Num.P2 XX
  refine join_use [2, 3] (by kernel_rfl) fun J e1 => ?_
  try simp only [← e1]
  clear e1
  generalize lpL (Y.ctx (lim' Y)) 16 = lp
  generalize lim' Y = call
  kernel_rfl
theorem sl22Num.p2 (y0 : ByteArray) (y1 : Bool) :
    sl22Num.P2 y0 y1 =
    bif y1 then some { cells := [TC.v (Value.int IntKind.i64 (-1))], objs := [] } else sl22Num.P3 y0 := by
  delta sl22Num.P2 sl22Num.P3 XX
  refine join_at [2, 3] 2 (by kernel_rfl) fun J e1 => ?_
  try simp only [← e1]
  clear e1
  generalize lpL (Y.ctx (lim' Y)) 16 = lp
  generalize lim' Y = call
  kernel_rfl
theorem sl22Num.p3 (y0 : ByteArray) :
    sl22Num.P3 y0 =
    (sl22Num.L5 y0 0 0).bind sl22Num.A5 := by
  delta sl22Num.P3 sl22Num.L5 sl22Num.A5 XX
  refine join_at [2, 3] 3 (by kernel_rfl) fun J e1 => ?_
  have eA := evA_J [2, 3] 5 (by kernel_rfl) e1
  try simp only [eA]
  clear eA
  try simp only [← e1]
  clear e1
  show _ = _
  generalize lpL (Y.ctx (lim' Y)) 16 = lp
  generalize lim' Y = call
  kernel_rfl
theorem sl22Num.s5 (y0 : ByteArray) (y1 : Int) (y2 : Int) :
    sl22Num.L5 y0 y1 y2 =
    bif decide (y2 < (↑y0.size : Int)) then
  bif decide (0 ≤ y2) && decide (y2 < (↑y0.size : Int)) then
    bif decide (byteAt y0 y2.toNat < 48) then sl22Num.P8 y0 y1 y2 true else bif decide (0 ≤ y2) && decide (y2 < (↑y0.size : Int)) then sl22Num.P8 y0 y1 y2 (decide (byteAt y0 y2.toNat > 57)) else none
  else none
else some (sl22Num.x5 y1) := by
  refine (lpL_eq (Y := Y) (c := lim' Y) (fn := 16) (rid := 5) (b := bodyAt 5 sl22Num.c) (by kernel_rfl) _).trans ?_
  delta sl22Num.L5 sl22Num.P8 sl22Num.x5 XX
  refine join_use [8, 9] (by kernel_rfl) fun J e1 => ?_
  try simp only [← e1]
  clear e1
  generalize lpL (Y.ctx (lim' Y)) 16 = lp
  generalize lim' Y = call
  kernel_rfl
theorem sl22Num.p8 (y0 : ByteArray) (y1 : Int) (y2 : Int) (y3 : Bool) :
    sl22Num.P8 y0 y1 y2 y3 =
    bif y3 then some (sl22Num.q5 (-1) y1) else sl22Num.P9 y0 y1 y2 := by
  delta sl22Num.P8 sl22Num.q5 sl22Num.P9 XX
  refine join_at [8, 9] 8 (by kernel_rfl) fun J e1 => ?_
  try simp only [← e1]
  clear e1
  generalize lpL (Y.ctx (lim' Y)) 16 = lp
  generalize lim' Y = call
  kernel_rfl
theorem sl22Num.a5x5 (y0 : Int) :
    sl22Num.A5 (sl22Num.x5 y0) =
    some { cells := [TC.v (Value.int IntKind.i64 y0)], objs := [] } := by
  delta sl22Num.A5 sl22Num.x5 XX
  refine join_behind [2, 3] 5 (by kernel_rfl) fun J e1 => ?_
  have eA := evA_J [2, 3] 5 (by kernel_rfl) e1
  try simp only [eA]
  clear eA
  try simp only [← e1]
  clear e1
  show _ = _
  generalize lpL (Y.ctx (lim' Y)) 16 = lp
  generalize lim' Y = call
  kernel_rfl
theorem sl22Num.a5q5 (y0 : Int) (y1 : Int) :
    sl22Num.A5 (sl22Num.q5 y0 y1) =
    some { cells := [TC.v (Value.int IntKind.i64 y0)], objs := [] } := by
  delta sl22Num.A5 sl22Num.q5 XX
  refine join_behind [2, 3] 5 (by kernel_rfl) fun J e1 => ?_
  have eA := evA_J [2, 3] 5 (by kernel_rfl) e1
  try simp only [eA]
  clear eA
  try simp only [← e1]
  clear e1
  show _ = _
  generalize lpL (Y.ctx (lim' Y)) 16 = lp
  generalize lim' Y = call
  kernel_rfl
theorem sl22Num.p9 (y0 : ByteArray) (y1 : Int) (y2 : Int) :
    sl22Num.P9 y0 y1 y2 =
    bif decide (0 ≤ y2) && decide (y2 < (↑y0.size : Int)) then
  sl22Num.L5 y0 (IntKind.i64.wrap (IntKind.i64.wrap (y1 * 10) + IntKind.i64.wrap (IntKind.u8.wrap (byteAt y0 y2.toNat - 48)))) (IntKind.i64.wrap (y2 + 1))
else none := by
  delta sl22Num.P9 sl22Num.L5 XX
  refine join_at [8, 9] 9 (by kernel_rfl) fun J e1 => ?_
  try simp only [← e1]
  clear e1
  generalize lpL (Y.ctx (lim' Y)) 16 = lp
  generalize lim' Y = call
  kernel_rfl


noncomputable def sl33Ok.P2 (y0 : Bool) (y1 : Int) (y2 : List (List D)) : Option Res := evB XX 17 (lpL XX 17) 2 sl33Ok.c
  (mkG 0 72 [(1, AV.one (A1.p true 1 [] 0)), (15, AV.one (A1.v (Value.bool y0)))] [(1, some { kind := Kind.box, row := [D.v (Value.int IntKind.i64 y1), D.s y2], fl := [Own.deep, Own.sh] })] GL)
  (outE XX 17 Tryd.f17)
noncomputable def sl33Ok.P3 (y0 : Int) (y1 : List (List D)) : Option Res := evB XX 17 (lpL XX 17) 3 sl33Ok.c (mkG 0 72 [(1, AV.one (A1.p true 1 [] 0))] [(1, some { kind := Kind.box, row := [D.v (Value.int IntKind.i64 y0), D.s y1], fl := [Own.deep, Own.sh] })] GL)
  (outE XX 17 Tryd.f17)
noncomputable def sl33Ok.L4 (y0 : Int) (y1 : Int) (y2 : List (List D)) : Option (Ex × St) := lpL XX 17 (bodyAt 4 sl33Ok.c)
  (mkG 0 72 [(1, AV.one (A1.p true 1 [] 0)), (3, AV.one (A1.v (Value.int IntKind.i64 y0)))] [(1, some { kind := Kind.box, row := [D.v (Value.int IntKind.i64 y1), D.s y2], fl := [Own.deep, Own.sh] })]
    GL)
noncomputable def sl33Ok.A4 : Ex × St → Option Res := fun r => evA XX 17 (lpL XX 17) 4 sl33Ok.c r.fst r.snd (outE XX 17 Tryd.f17)
noncomputable def sl33Ok.P8 (y0 : Int) (y1 : Bool) (y2 : Int) (y3 : List (List D)) (y4 : Int) (y5 : List (List D)) : Option (Ex × St) := evB XX 17 (lpL XX 17) 8 (bodyAt 4 sl33Ok.c)
  (mkG 0 72 [(1, AV.one (A1.p true 1 [] 0)), (3, AV.one (A1.v (Value.int IntKind.i64 y0))), (4, AV.one (A1.p true 4 [] 0)), (57, AV.one (A1.v (Value.bool y1)))]
    [(1, some { kind := Kind.box, row := [D.v (Value.int IntKind.i64 y2), D.s y3], fl := [Own.deep, Own.sh] }),
      (4, some { kind := Kind.box, row := [D.v (Value.int IntKind.i64 y4), D.s y5], fl := [Own.deep, Own.sh] })]
    GL)
  (backL (lpL XX 17) (bodyAt 4 sl33Ok.c) (XX.live 17 4))
noncomputable def sl33Ok.x4 : Ex × St := (Ex.exit 0, mkG 0 72 [] [] GL)
noncomputable def sl33Ok.q4 (y0 : Bool) : Ex × St := (Ex.ret, mkG 0 72 [(2, AV.one (A1.v (Value.bool y0)))] [] GL)
noncomputable def sl33Ok.P9 (y0 : Int) (y1 : Int) (y2 : List (List D)) (y3 : Int) (y4 : List (List D)) : Option (Ex × St) := evB XX 17 (lpL XX 17) 9 (bodyAt 4 sl33Ok.c)
  (mkG 0 72 [(1, AV.one (A1.p true 1 [] 0)), (3, AV.one (A1.v (Value.int IntKind.i64 y0))), (4, AV.one (A1.p true 4 [] 0))]
    [(1, some { kind := Kind.box, row := [D.v (Value.int IntKind.i64 y1), D.s y2], fl := [Own.deep, Own.sh] }),
      (4, some { kind := Kind.box, row := [D.v (Value.int IntKind.i64 y3), D.s y4], fl := [Own.deep, Own.sh] })]
    GL)
  (backL (lpL XX 17) (bodyAt 4 sl33Ok.c) (XX.live 17 4))
noncomputable def sl33Ok.L10 (y0 : Int) (y1 : Int) (y2 : Int) (y3 : List (List D)) (y4 : Int) (y5 : List (List D)) : Option (Ex × St) := lpL XX 17 (bodyAt 10 (bodyAt 4 sl33Ok.c))
  (mkG 0 72 [(1, AV.one (A1.p true 1 [] 0)), (3, AV.one (A1.v (Value.int IntKind.i64 y0))), (4, AV.one (A1.p true 4 [] 0)), (5, AV.one (A1.v (Value.int IntKind.i64 y1)))]
    [(1, some { kind := Kind.box, row := [D.v (Value.int IntKind.i64 y2), D.s y3], fl := [Own.deep, Own.sh] }),
      (4, some { kind := Kind.box, row := [D.v (Value.int IntKind.i64 y4), D.s y5], fl := [Own.deep, Own.sh] })]
    GL)
noncomputable def sl33Ok.A10 : Ex × St → Option (Ex × St) := fun r => evA XX 17 (lpL XX 17) 10 (bodyAt 4 sl33Ok.c) r.fst r.snd (backL (lpL XX 17) (bodyAt 4 sl33Ok.c) (XX.live 17 4))
noncomputable def sl33Ok.q10 (y0 : Bool) (y1 : Int) (y2 : Int) (y3 : List (List D)) : Ex × St := (Ex.ret,
  mkG 0 72 [(1, AV.one (A1.p true 1 [] 0)), (2, AV.one (A1.v (Value.bool y0))), (3, AV.one (A1.v (Value.int IntKind.i64 y1)))]
    [(1, some { kind := Kind.box, row := [D.v (Value.int IntKind.i64 y2), D.s y3], fl := [Own.deep, Own.sh] })] GL)
noncomputable def sl33Ok.x10 (y0 : Int) (y1 : Int) (y2 : List (List D)) : Ex × St := (Ex.exit 2,
  mkG 0 72 [(1, AV.one (A1.p true 1 [] 0)), (3, AV.one (A1.v (Value.int IntKind.i64 y0)))] [(1, some { kind := Kind.box, row := [D.v (Value.int IntKind.i64 y1), D.s y2], fl := [Own.deep, Own.sh] })]
    GL)
theorem sl33Ok.e (a0 : Int) (a1 : List (List D)) :
    sl33Ok [AV.g [A1.v (Value.int IntKind.i64 a0), A1.s a1]] [] =
    (sl1In [AV.one (A1.v (Value.int IntKind.i64 a0)), AV.one (A1.v (Value.int IntKind.i64 1)), AV.one (A1.v (Value.int IntKind.i64 10000))] []).bind fun val =>
  bif fitsCells [R1.bool] val.1 && true then bif !(val.1.getD 0 TC.d).bool then sl33Ok.P2 true a0 a1 else sl33Ok.P2 (decide ((↑a1.length : Int) > 30)) a0 a1 else none := by
  refine (sl33Ok.run _ _ (by kernel_rfl)).trans ?_
  delta sl33Ok sl1In sl33Ok.P2 XX
  refine join_use [2, 3] (by kernel_rfl) fun J e1 => ?_
  try simp only [← e1]
  clear e1
  generalize lpL (Y.ctx (lim' Y)) 17 = lp
  generalize lim' Y = call
  kernel_rfl
theorem sl33Ok.p2 (y0 : Bool) (y1 : Int) (y2 : List (List D)) :
    sl33Ok.P2 y0 y1 y2 =
    bif y0 then some { cells := [TC.v (Value.bool false)], objs := [] } else sl33Ok.P3 y1 y2 := by
  delta sl33Ok.P2 sl33Ok.P3 XX
  refine join_at [2, 3] 2 (by kernel_rfl) fun J e1 => ?_
  try simp only [← e1]
  clear e1
  generalize lpL (Y.ctx (lim' Y)) 17 = lp
  generalize lim' Y = call
  kernel_rfl
theorem sl33Ok.p3 (y0 : Int) (y1 : List (List D)) :
    sl33Ok.P3 y0 y1 =
    (sl33Ok.L4 0 y0 y1).bind sl33Ok.A4 := by
  delta sl33Ok.P3 sl33Ok.L4 sl33Ok.A4 XX
  refine join_at [2, 3] 3 (by kernel_rfl) fun J e1 => ?_
  have eA := evA_J [2, 3] 4 (by kernel_rfl) e1
  try simp only [eA]
  clear eA
  try simp only [← e1]
  clear e1
  show _ = _
  generalize lpL (Y.ctx (lim' Y)) 17 = lp
  generalize lim' Y = call
  kernel_rfl
theorem sl33Ok.s4 (y0 : Int) (y1 : Int) (y2 : List (List D)) :
    sl33Ok.L4 y0 y1 y2 =
    bif decide (y0 < (↑y2.length : Int)) then
  bif decide (0 ≤ y0) && decide (y0 < (↑y2.length : Int)) && decide ((y2.getD y0.toNat []).length = 2) then
    bif fitsRow [CK.int IntKind.i64, CK.sl] (y2.getD y0.toNat []) 0 && decide (2 ≤ (y2.getD y0.toNat []).length) then
      (sl1In [AV.one (A1.v (Value.int IntKind.i64 ((y2.getD y0.toNat []).getD 0 D.h).int)), AV.one (A1.v (Value.int IntKind.i64 1)), AV.one (A1.v (Value.int IntKind.i64 (IntKind.i64.wrap (y1 - 1))))]
            []).bind
        fun val =>
        bif fitsCells [R1.bool] val.1 && true then
          bif !(val.1.getD 0 TC.d).bool then sl33Ok.P8 y0 true y1 y2 ((y2.getD y0.toNat []).getD 0 D.h).int ((y2.getD y0.toNat []).getD 1 D.h).es
          else
            (sl2PathOk [AV.one (A1.s ((y2.getD y0.toNat []).getD 1 D.h).es)] []).bind fun val =>
              bif fitsCells [R1.bool] val.1 && true then
                bif !(val.1.getD 0 TC.d).bool then sl33Ok.P8 y0 true y1 y2 ((y2.getD y0.toNat []).getD 0 D.h).int ((y2.getD y0.toNat []).getD 1 D.h).es
                else
                  bif decide (y0 > 0) then
                    bif decide (0 ≤ IntKind.i64.wrap (y0 - 1)) && decide (IntKind.i64.wrap (y0 - 1) < (↑y2.length : Int)) && decide ((y2.getD (IntKind.i64.wrap (y0 - 1)).toNat []).length = 2) then
                      bif fitsRow [CK.sl] (y2.getD (IntKind.i64.wrap (y0 - 1)).toNat []) 1 && decide (2 ≤ (y2.getD (IntKind.i64.wrap (y0 - 1)).toNat []).length) then
                        (sl11Less [AV.one (A1.s ((y2.getD (IntKind.i64.wrap (y0 - 1)).toNat []).getD 1 D.h).es), AV.one (A1.s ((y2.getD y0.toNat []).getD 1 D.h).es)] []).bind fun val =>
                          bif fitsCells [R1.bool] val.1 && true then sl33Ok.P8 y0 (!(val.1.getD 0 TC.d).bool) y1 y2 ((y2.getD y0.toNat []).getD 0 D.h).int ((y2.getD y0.toNat []).getD 1 D.h).es
                          else none
                      else none
                    else none
                  else sl33Ok.P8 y0 false y1 y2 ((y2.getD y0.toNat []).getD 0 D.h).int ((y2.getD y0.toNat []).getD 1 D.h).es
              else none
        else none
    else none
  else none
else some sl33Ok.x4 := by
  refine (lpL_eq (Y := Y) (c := lim' Y) (fn := 17) (rid := 4) (b := bodyAt 4 sl33Ok.c) (by kernel_rfl) _).trans ?_
  delta sl33Ok.L4 sl1In sl33Ok.P8 sl2PathOk sl11Less sl33Ok.x4 XX
  refine join_use [8, 9] (by kernel_rfl) fun J e1 => ?_
  try simp only [← e1]
  clear e1
  generalize lpL (Y.ctx (lim' Y)) 17 = lp
  generalize lim' Y = call
  kernel_rfl
theorem sl33Ok.p8 (y0 : Int) (y1 : Bool) (y2 : Int) (y3 : List (List D)) (y4 : Int) (y5 : List (List D)) :
    sl33Ok.P8 y0 y1 y2 y3 y4 y5 =
    bif y1 then some (sl33Ok.q4 false) else sl33Ok.P9 y0 y2 y3 y4 y5 := by
  delta sl33Ok.P8 sl33Ok.q4 sl33Ok.P9 XX
  refine join_at [8, 9] 8 (by kernel_rfl) fun J e1 => ?_
  try simp only [← e1]
  clear e1
  generalize lpL (Y.ctx (lim' Y)) 17 = lp
  generalize lim' Y = call
  kernel_rfl
theorem sl33Ok.a4x4 :
    sl33Ok.A4 sl33Ok.x4 =
    some { cells := [TC.v (Value.bool true)], objs := [] } := by
  delta sl33Ok.A4 sl33Ok.x4 XX
  refine join_behind [2, 3] 4 (by kernel_rfl) fun J e1 => ?_
  have eA := evA_J [2, 3] 4 (by kernel_rfl) e1
  try simp only [eA]
  clear eA
  try simp only [← e1]
  clear e1
  show _ = _
  generalize lpL (Y.ctx (lim' Y)) 17 = lp
  generalize lim' Y = call
  kernel_rfl
theorem sl33Ok.a4q4 (y0 : Bool) :
    sl33Ok.A4 (sl33Ok.q4 y0) =
    some { cells := [TC.v (Value.bool y0)], objs := [] } := by
  delta sl33Ok.A4 sl33Ok.q4 XX
  refine join_behind [2, 3] 4 (by kernel_rfl) fun J e1 => ?_
  have eA := evA_J [2, 3] 4 (by kernel_rfl) e1
  try simp only [eA]
  clear eA
  try simp only [← e1]
  clear e1
  show _ = _
  generalize lpL (Y.ctx (lim' Y)) 17 = lp
  generalize lim' Y = call
  kernel_rfl
theorem sl33Ok.p9 (y0 : Int) (y1 : Int) (y2 : List (List D)) (y3 : Int) (y4 : List (List D)) :
    sl33Ok.P9 y0 y1 y2 y3 y4 =
    (sl33Ok.L10 y0 0 y1 y2 y3 y4).bind sl33Ok.A10 := by
  delta sl33Ok.P9 sl33Ok.L10 sl33Ok.A10 XX
  refine join_at [8, 9] 9 (by kernel_rfl) fun J e1 => ?_
  have eA := evA_J [8, 9] 10 (by kernel_rfl) e1
  try simp only [eA]
  clear eA
  try simp only [← e1]
  clear e1
  show _ = _
  generalize lpL (Y.ctx (lim' Y)) 17 = lp
  generalize lim' Y = call
  kernel_rfl
theorem sl33Ok.s10 (y0 : Int) (y1 : Int) (y2 : Int) (y3 : List (List D)) (y4 : Int) (y5 : List (List D)) :
    sl33Ok.L10 y0 y1 y2 y3 y4 y5 =
    bif decide (y1 < y0) then
  bif decide (0 ≤ y1) && decide (y1 < (↑y3.length : Int)) && decide ((y3.getD y1.toNat []).length = 2) then
    bif fitsRow [CK.int IntKind.i64] (y3.getD y1.toNat []) 0 && decide (1 ≤ (y3.getD y1.toNat []).length) then
      bif ((y3.getD y1.toNat []).getD 0 D.h).int == y4 then some (sl33Ok.q10 false y0 y2 y3) else sl33Ok.L10 y0 (IntKind.i64.wrap (y1 + 1)) y2 y3 y4 y5
    else none
  else none
else some (sl33Ok.x10 y0 y2 y3) := by
  refine (lpL_eq (Y := Y) (c := lim' Y) (fn := 17) (rid := 10) (b := bodyAt 10 (bodyAt 4 sl33Ok.c)) (by kernel_rfl) _).trans ?_
  delta sl33Ok.L10 sl33Ok.q10 sl33Ok.x10 XX
  generalize lpL (Y.ctx (lim' Y)) 17 = lp
  generalize lim' Y = call
  kernel_rfl
theorem sl33Ok.a10q10 (y0 : Bool) (y1 : Int) (y2 : Int) (y3 : List (List D)) :
    sl33Ok.A10 (sl33Ok.q10 y0 y1 y2 y3) =
    some (sl33Ok.q4 y0) := by
  delta sl33Ok.A10 sl33Ok.q10 sl33Ok.q4 XX
  refine join_behind [8, 9] 10 (by kernel_rfl) fun J e1 => ?_
  have eA := evA_J [8, 9] 10 (by kernel_rfl) e1
  try simp only [eA]
  clear eA
  try simp only [← e1]
  clear e1
  show _ = _
  generalize lpL (Y.ctx (lim' Y)) 17 = lp
  generalize lim' Y = call
  kernel_rfl
theorem sl33Ok.a10x10 (y0 : Int) (y1 : Int) (y2 : List (List D)) :
    sl33Ok.A10 (sl33Ok.x10 y0 y1 y2) =
    sl33Ok.L4 (IntKind.i64.wrap (y0 + 1)) y1 y2 := by
  delta sl33Ok.A10 sl33Ok.x10 sl33Ok.L4 XX
  refine join_behind [8, 9] 10 (by kernel_rfl) fun J e1 => ?_
  have eA := evA_J [8, 9] 10 (by kernel_rfl) e1
  try simp only [eA]
  clear eA
  try simp only [← e1]
  clear e1
  show _ = _
  generalize lpL (Y.ctx (lim' Y)) 17 = lp
  generalize lim' Y = call
  kernel_rfl


noncomputable def sNodesWrite.L5 (y0 : ByteArray) (y1 : Int) (y2 : Int) (y3 : List (List D)) : Option (Ex × St) := lpL XX 18 (bodyAt 5 sNodesWrite.c)
  (mkG 0 40 [(1, AV.one (A1.p true 1 [] 0)), (3, AV.one (A1.v (Value.string y0))), (4, AV.one (A1.v (Value.int IntKind.i64 y1)))]
    [(1, some { kind := Kind.box, row := [D.v (Value.int IntKind.i64 y2), D.s y3], fl := [Own.deep, Own.sh] })] GL)
noncomputable def sNodesWrite.A5 : Ex × St → Option Res := fun r => evA XX 18 (lpL XX 18) 5 sNodesWrite.c r.fst r.snd (outE XX 18 Tryd.f18)
noncomputable def sNodesWrite.x5 (y0 : ByteArray) : Ex × St := (Ex.exit 0, mkG 0 40 [(3, AV.one (A1.v (Value.string y0)))] [] GL)
theorem sNodesWrite.e (a0 : Int) (a1 : List (List D)) :
    sNodesWrite [AV.g [A1.v (Value.int IntKind.i64 a0), A1.s a1]] [] =
    (sl33Ok [AV.g [A1.v (Value.int IntKind.i64 a0), A1.s a1]] []).bind fun val =>
  bif fitsCells [R1.bool] val.1 && true then
    bif !(val.1.getD 0 TC.d).bool then some { cells := [TC.v (Value.string (ByteArray.mk #[]))], objs := [] }
    else
      (sl1Dec [AV.one (A1.v (Value.int IntKind.i64 a0))] []).bind fun val =>
        bif fitsCells [R1.str] val.1 && true then
          bif decide (5 + (val.1.getD 0 TC.d).str.size ≤ 70368744177664) then
            bif decide (((ByteArray.mk #[110, 101, 120, 116, 32]) ++ (val.1.getD 0 TC.d).str).size + 1 ≤ 70368744177664) then
              (sNodesWrite.L5 ((ByteArray.mk #[110, 101, 120, 116, 32]) ++ (val.1.getD 0 TC.d).str ++ (ByteArray.mk #[10])) 0 a0
                    a1).bind
                sNodesWrite.A5
            else none
          else none
        else none
  else none := by
  refine (sNodesWrite.run _ _ (by kernel_rfl)).trans ?_
  delta sNodesWrite sl33Ok sl1Dec sNodesWrite.L5 sNodesWrite.A5 XX
  generalize lpL (Y.ctx (lim' Y)) 18 = lp
  generalize lim' Y = call
  kernel_rfl
theorem sNodesWrite.s5 (y0 : ByteArray) (y1 : Int) (y2 : Int) (y3 : List (List D)) :
    sNodesWrite.L5 y0 y1 y2 y3 =
    bif decide (y1 < (↑y3.length : Int)) then
  bif decide (0 ≤ y1) && decide (y1 < (↑y3.length : Int)) && decide ((y3.getD y1.toNat []).length = 2) then
    bif fitsRow [CK.int IntKind.i64] (y3.getD y1.toNat []) 0 && decide (1 ≤ (y3.getD y1.toNat []).length) then
      (sl1Dec [AV.one (A1.v (Value.int IntKind.i64 ((y3.getD y1.toNat []).getD 0 D.h).int))] []).bind fun val =>
        bif fitsCells [R1.str] val.1 && true then
          bif decide (y0.size + (val.1.getD 0 TC.d).str.size ≤ 70368744177664) then
            bif decide ((y0 ++ (val.1.getD 0 TC.d).str).size + 1 ≤ 70368744177664) then
              bif decide (0 ≤ y1) && decide (y1 < (↑y3.length : Int)) && decide ((y3.getD y1.toNat []).length = 2) then
                bif fitsRow [CK.sl] (y3.getD y1.toNat []) 1 && decide (2 ≤ (y3.getD y1.toNat []).length) then
                  (sl3Name [AV.one (A1.s ((y3.getD y1.toNat []).getD 1 D.h).es)] []).bind fun val_1 =>
                    bif fitsCells [R1.str] val_1.1 && true then
                      bif decide ((y0 ++ (val.1.getD 0 TC.d).str ++ (ByteArray.mk #[32])).size + (val_1.1.getD 0 TC.d).str.size ≤ 70368744177664) then
                        bif decide ((y0 ++ (val.1.getD 0 TC.d).str ++ (ByteArray.mk #[32]) ++ (val_1.1.getD 0 TC.d).str).size + 1 ≤ 70368744177664) then
                          sNodesWrite.L5 (y0 ++ (val.1.getD 0 TC.d).str ++ (ByteArray.mk #[32]) ++ (val_1.1.getD 0 TC.d).str ++ (ByteArray.mk #[10])) (IntKind.i64.wrap (y1 + 1)) y2
                            y3
                        else none
                      else none
                    else none
                else none
              else none
            else none
          else none
        else none
    else none
  else none
else some (sNodesWrite.x5 y0) := by
  refine (lpL_eq (Y := Y) (c := lim' Y) (fn := 18) (rid := 5) (b := bodyAt 5 sNodesWrite.c) (by kernel_rfl) _).trans ?_
  delta sNodesWrite.L5 sl1Dec sl3Name sNodesWrite.x5 XX
  generalize lpL (Y.ctx (lim' Y)) 18 = lp
  generalize lim' Y = call
  kernel_rfl
theorem sNodesWrite.a5x5 (y0 : ByteArray) :
    sNodesWrite.A5 (sNodesWrite.x5 y0) =
    some { cells := [TC.v (Value.string y0)], objs := [] } := by
  delta sNodesWrite.A5 sNodesWrite.x5 XX
  generalize lpL (Y.ctx (lim' Y)) 18 = lp
  generalize lim' Y = call
  kernel_rfl


noncomputable def sl33Copy.L3 (y0 : Int) (y1 : Int) (y2 : List (List D)) (y3 : Int) (y4 : List (List D)) (y5 : Int) (y6 : List (List D)) : Option (Ex × St) := lpL XX 19 (bodyAt 3 sl33Copy.c)
  (mkG 0 36 [(1, AV.one (A1.p true 1 [] 0)), (2, AV.one (A1.p true 2 [] 0)), (3, AV.one (A1.p true 3 [] 0)), (4, AV.one (A1.v (Value.int IntKind.i64 y0)))]
    [(1, some { kind := Kind.box, row := [D.v (Value.int IntKind.i64 y1), D.s y2], fl := [Own.deep, Own.sh] }),
      (2, some { kind := Kind.box, row := [D.v (Value.int IntKind.i64 y3), D.s y4], fl := [Own.deep, Own.deep] }),
      (3, some { kind := Kind.box, row := [D.v (Value.int IntKind.i64 y5), D.s y6], fl := [Own.deep, Own.deep] })]
    GL)
noncomputable def sl33Copy.A3 : Ex × St → Option Res := fun r => evA XX 19 (lpL XX 19) 3 sl33Copy.c r.fst r.snd (outE XX 19 Tryd.f19)
noncomputable def sl33Copy.x3 (y0 : Int) (y1 : List (List D)) (y2 : Int) (y3 : List (List D)) : Ex × St := (Ex.exit 0,
  mkG 0 36 [(2, AV.one (A1.p true 2 [] 0)), (3, AV.one (A1.p true 3 [] 0))]
    [(2, some { kind := Kind.box, row := [D.v (Value.int IntKind.i64 y0), D.s y1], fl := [Own.deep, Own.deep] }),
      (3, some { kind := Kind.box, row := [D.v (Value.int IntKind.i64 y2), D.s y3], fl := [Own.deep, Own.deep] })]
    GL)
theorem sl33Copy.e (a0 : Int) (a1 : List (List D)) :
    sl33Copy [AV.g [A1.v (Value.int IntKind.i64 a0), A1.s a1]] [] =
    (sl33Copy.L3 0 a0 a1 0 [] a0 []).bind sl33Copy.A3 := by
  refine (sl33Copy.run _ _ (by kernel_rfl)).trans ?_
  delta sl33Copy sl33Copy.L3 sl33Copy.A3 XX
  generalize lpL (Y.ctx (lim' Y)) 19 = lp
  generalize lim' Y = call
  kernel_rfl
theorem sl33Copy.s3 (y0 : Int) (y1 : Int) (y2 : List (List D)) (y3 : Int) (y4 : List (List D)) (y5 : Int) (y6 : List (List D)) :
    sl33Copy.L3 y0 y1 y2 y3 y4 y5 y6 =
    bif decide (y0 < (↑y2.length : Int)) then
  bif decide (0 ≤ y0) && decide (y0 < (↑y2.length : Int)) && decide ((y2.getD y0.toNat []).length = 2) then
    bif fitsRow [CK.int IntKind.i64] (y2.getD y0.toNat []) 0 && decide (1 ≤ (y2.getD y0.toNat []).length) then
      bif decide (0 ≤ y0) && decide (y0 < (↑y2.length : Int)) && decide ((y2.getD y0.toNat []).length = 2) then
        bif fitsRow [CK.sl] (y2.getD y0.toNat []) 1 && decide (2 ≤ (y2.getD y0.toNat []).length) then
          bif
              rowsLen 1 ((y2.getD y0.toNat []).getD 1 D.h).es && rowsCell false ((y2.getD y0.toNat []).getD 1 D.h).es && true &&
                decide ((0 + ((y2.getD y0.toNat []).getD 1 D.h).es.length) * 17 ≤ 70368744177664) then
            bif rowsLen 2 y6 && true && true && true && decide ((y6.length + 1) * 33 ≤ 70368744177664) then
              sl33Copy.L3 (IntKind.i64.wrap (y0 + 1)) y1 y2 y3 y4 y5 (y6 ++ [[D.v (Value.int IntKind.i64 ((y2.getD y0.toNat []).getD 0 D.h).int), D.s ((y2.getD y0.toNat []).getD 1 D.h).es]])
            else none
          else none
        else none
      else none
    else none
  else none
else some (sl33Copy.x3 y3 y4 y5 y6) := by
  refine (lpL_eq (Y := Y) (c := lim' Y) (fn := 19) (rid := 3) (b := bodyAt 3 sl33Copy.c) (by kernel_rfl) _).trans ?_
  delta sl33Copy.L3 sl33Copy.x3 XX
  generalize lpL (Y.ctx (lim' Y)) 19 = lp
  generalize lim' Y = call
  kernel_rfl
theorem sl33Copy.a3x3 (y0 : Int) (y1 : List (List D)) (y2 : Int) (y3 : List (List D)) :
    sl33Copy.A3 (sl33Copy.x3 y0 y1 y2 y3) =
    some { cells := [TC.v (Value.int IntKind.i64 y2), TC.o Own.deep y3], objs := [] } := by
  delta sl33Copy.A3 sl33Copy.x3 XX
  generalize lpL (Y.ctx (lim' Y)) 19 = lp
  generalize lim' Y = call
  kernel_rfl


theorem ilinesOf.e (a0 : ByteArray) :
    ilinesOf [AV.one (A1.v (Value.string a0))] [] =
    (strings_Split [AV.one (A1.v (Value.string a0)), AV.one (A1.v (Value.string (ByteArray.mk #[10])))] []).bind fun val =>
  bif fitsCells [R1.own Own.deep] val.1 && true then
    bif
        decide (none.getD 0 ≤ IntKind.i64.wrap ((↑(val.1.getD 0 TC.d).es.length : Int) - 1)) &&
            decide (IntKind.i64.wrap ((↑(val.1.getD 0 TC.d).es.length : Int) - 1) ≤ (↑(val.1.getD 0 TC.d).es.length : Int)) &&
          true then
      some { cells := [TC.s (List.drop 0 (List.take (IntKind.i64.wrap ((↑(val.1.getD 0 TC.d).es.length : Int) - 1)).toNat (val.1.getD 0 TC.d).es))], objs := [] }
    else none
  else none := by
  refine (ilinesOf.run _ _ (by kernel_rfl)).trans ?_
  delta ilinesOf strings_Split XX
  generalize lpL (Y.ctx (lim' Y)) 20 = lp
  generalize lim' Y = call
  kernel_rfl


theorem inumRead.e (a0 : ByteArray) :
    inumRead [AV.one (A1.v (Value.string a0))] [] =
    (strconv_Atoi [AV.one (A1.v (Value.string a0))] []).bind fun val =>
  bif fitsCells [R1.int IntKind.i64, R1.any] val.1 && true then some { cells := [TC.v (Value.int IntKind.i64 (val.1.getD 0 TC.d).int)], objs := [] } else none := by
  refine (inumRead.run _ _ (by kernel_rfl)).trans ?_
  delta inumRead strconv_Atoi XX
  generalize lpL (Y.ctx (lim' Y)) 22 = lp
  generalize lim' Y = call
  kernel_rfl


theorem ipathRead.e (a0 : ByteArray) :
    ipathRead [AV.one (A1.v (Value.string a0))] [] =
    (strings_TrimPrefix [AV.one (A1.v (Value.string a0)), AV.one (A1.v (Value.string (ByteArray.mk #[47])))] []).bind fun val =>
  bif fitsCells [R1.str] val.1 && true then
    bif (val.1.getD 0 TC.d).str.toList == [] then some { cells := [TC.o Own.deep []], objs := [] }
    else
      (strings_Split [AV.one (A1.v (Value.string (val.1.getD 0 TC.d).str)), AV.one (A1.v (Value.string (ByteArray.mk #[47])))] []).bind fun val =>
        bif fitsCells [R1.own Own.deep] val.1 && true then some { cells := [TC.o Own.deep (val.1.getD 0 TC.d).es], objs := [] } else none
  else none := by
  refine (ipathRead.run _ _ (by kernel_rfl)).trans ?_
  delta ipathRead strings_TrimPrefix strings_Split XX
  generalize lpL (Y.ctx (lim' Y)) 23 = lp
  generalize lim' Y = call
  kernel_rfl


noncomputable def iNodesWrite.L5 (y0 : ByteArray) (y1 : List (List D)) (y2 : Int) (y3 : Int) : Option (Ex × St) := lpL XX 24 (bodyAt 5 iNodesWrite.c)
  (mkG 0 34 [(3, AV.one (A1.v (Value.string y0))), (15, AV.one (A1.s y1)), (16, AV.one (A1.v (Value.int IntKind.i64 y2))), (17, AV.one (A1.v (Value.int IntKind.i64 y3)))] [] GL)
noncomputable def iNodesWrite.A5 : Ex × St → Option Res := fun r => evA XX 24 (lpL XX 24) 5 iNodesWrite.c r.fst r.snd (outE XX 24 Tryd.f24)
noncomputable def iNodesWrite.x5 (y0 : ByteArray) : Ex × St := (Ex.exit 0, mkG 0 34 [(3, AV.one (A1.v (Value.string y0)))] [] GL)
theorem iNodesWrite.e (a0 : Int) (a1 : List (List D)) :
    iNodesWrite [AV.g [A1.v (Value.int IntKind.i64 a0), A1.s a1]] [] =
    (inodesWell [AV.g [A1.v (Value.int IntKind.i64 a0), A1.s a1]] []).bind fun val =>
  bif fitsCells [R1.bool] val.1 && true then
    bif !(val.1.getD 0 TC.d).bool then some { cells := [TC.v (Value.string (ByteArray.mk #[]))], objs := [] }
    else
      (strconv_Itoa [AV.one (A1.v (Value.int IntKind.i64 a0))] []).bind fun val =>
        bif fitsCells [R1.str] val.1 && true then
          bif decide (5 + (val.1.getD 0 TC.d).str.size ≤ 70368744177664) then
            bif decide (((ByteArray.mk #[110, 101, 120, 116, 32]) ++ (val.1.getD 0 TC.d).str).size + 1 ≤ 70368744177664) then
              (iNodesWrite.L5 ((ByteArray.mk #[110, 101, 120, 116, 32]) ++ (val.1.getD 0 TC.d).str ++ (ByteArray.mk #[10])) a1
                    (↑a1.length : Int) 0).bind
                iNodesWrite.A5
            else none
          else none
        else none
  else none := by
  refine (iNodesWrite.run _ _ (by kernel_rfl)).trans ?_
  delta iNodesWrite inodesWell strconv_Itoa iNodesWrite.L5 iNodesWrite.A5 XX
  generalize lpL (Y.ctx (lim' Y)) 24 = lp
  generalize lim' Y = call
  kernel_rfl
theorem iNodesWrite.s5 (y0 : ByteArray) (y1 : List (List D)) (y2 : Int) (y3 : Int) :
    iNodesWrite.L5 y0 y1 y2 y3 =
    bif decide (y3 < y2) then
  bif decide (0 ≤ y3) && decide (y3 < (↑y1.length : Int)) && decide ((y1.getD y3.toNat []).length = 2) then
    bif fitsRow [CK.int IntKind.i64, CK.sl] (y1.getD y3.toNat []) 0 && decide (2 ≤ (y1.getD y3.toNat []).length) then
      (strconv_Itoa [AV.one (A1.v (Value.int IntKind.i64 ((y1.getD y3.toNat []).getD 0 D.h).int))] []).bind fun val =>
        bif fitsCells [R1.str] val.1 && true then
          bif decide ((val.1.getD 0 TC.d).str.size + 1 ≤ 70368744177664) then
            (ipathText [AV.one (A1.s ((y1.getD y3.toNat []).getD 1 D.h).es)] []).bind fun val_1 =>
              bif fitsCells [R1.str] val_1.1 && true then
                bif decide (((val.1.getD 0 TC.d).str ++ (ByteArray.mk #[32])).size + (val_1.1.getD 0 TC.d).str.size ≤ 70368744177664) then
                  bif decide (((val.1.getD 0 TC.d).str ++ (ByteArray.mk #[32]) ++ (val_1.1.getD 0 TC.d).str).size + 1 ≤ 70368744177664) then
                    bif decide (y0.size + ((val.1.getD 0 TC.d).str ++ (ByteArray.mk #[32]) ++ (val_1.1.getD 0 TC.d).str ++ (ByteArray.mk #[10])).size ≤ 70368744177664) then
                      iNodesWrite.L5 (y0 ++ ((val.1.getD 0 TC.d).str ++ (ByteArray.mk #[32]) ++ (val_1.1.getD 0 TC.d).str ++ (ByteArray.mk #[10]))) y1 y2 (IntKind.i64.wrap (y3 + 1))
                    else none
                  else none
                else none
              else none
          else none
        else none
    else none
  else none
else some (iNodesWrite.x5 y0) := by
  refine (lpL_eq (Y := Y) (c := lim' Y) (fn := 24) (rid := 5) (b := bodyAt 5 iNodesWrite.c) (by kernel_rfl) _).trans ?_
  delta iNodesWrite.L5 strconv_Itoa ipathText iNodesWrite.x5 XX
  generalize lpL (Y.ctx (lim' Y)) 24 = lp
  generalize lim' Y = call
  kernel_rfl
theorem iNodesWrite.a5x5 (y0 : ByteArray) :
    iNodesWrite.A5 (iNodesWrite.x5 y0) =
    some { cells := [TC.v (Value.string y0)], objs := [] } := by
  delta iNodesWrite.A5 iNodesWrite.x5 XX
  generalize lpL (Y.ctx (lim' Y)) 24 = lp
  generalize lim' Y = call
  kernel_rfl


noncomputable def weqNodeOfS.L4 (y0 : List (List D)) (y1 : List (List D)) (y2 : Int) : Option (Ex × St) := lpL XX 25 (bodyAt 4 weqNodeOfS.c) (mkG 0 27 [(0, AV.one (A1.s y0)), (1, AV.one (A1.s y1)), (5, AV.one (A1.v (Value.int IntKind.i64 y2)))] [] GL)
noncomputable def weqNodeOfS.A4 : Ex × St → Option Res := fun r => evA XX 25 (lpL XX 25) 4 weqNodeOfS.c r.fst r.snd (outE XX 25 Tryd.f25)
noncomputable def weqNodeOfS.q4 (y0 : Bool) : Ex × St := (Ex.ret, mkG 0 27 [(4, AV.one (A1.v (Value.bool y0)))] [] GL)
noncomputable def weqNodeOfS.x4 : Ex × St := (Ex.exit 0, mkG 0 27 [] [] GL)
theorem weqNodeOfS.e (a0 : List (List D)) (a1 : List (List D)) :
    weqNodeOfS [AV.one (A1.s a0), AV.one (A1.s a1)] [] =
    bif (↑a0.length : Int) != (↑a1.length : Int) then some { cells := [TC.v (Value.bool false)], objs := [] } else (weqNodeOfS.L4 a0 a1 0).bind weqNodeOfS.A4 := by
  refine (weqNodeOfS.run _ _ (by kernel_rfl)).trans ?_
  delta weqNodeOfS weqNodeOfS.L4 weqNodeOfS.A4 XX
  generalize lpL (Y.ctx (lim' Y)) 25 = lp
  generalize lim' Y = call
  kernel_rfl
theorem weqNodeOfS.s4 (y0 : List (List D)) (y1 : List (List D)) (y2 : Int) :
    weqNodeOfS.L4 y0 y1 y2 =
    bif decide (y2 < (↑y0.length : Int)) then
  bif decide (0 ≤ y2) && decide (y2 < (↑y0.length : Int)) && decide ((y0.getD y2.toNat []).length = 2) then
    bif fitsRow [CK.int IntKind.i64, CK.sl] (y0.getD y2.toNat []) 0 && decide (2 ≤ (y0.getD y2.toNat []).length) then
      bif decide (0 ≤ y2) && decide (y2 < (↑y1.length : Int)) && decide ((y1.getD y2.toNat []).length = 2) then
        bif fitsRow [CK.int IntKind.i64, CK.sl] (y1.getD y2.toNat []) 0 && decide (2 ≤ (y1.getD y2.toNat []).length) then
          (weqNodeOf
                [AV.g [A1.v (Value.int IntKind.i64 ((y0.getD y2.toNat []).getD 0 D.h).int), A1.s ((y0.getD y2.toNat []).getD 1 D.h).es],
                  AV.g [A1.v (Value.int IntKind.i64 ((y1.getD y2.toNat []).getD 0 D.h).int), A1.s ((y1.getD y2.toNat []).getD 1 D.h).es]]
                []).bind
            fun val => bif fitsCells [R1.bool] val.1 && true then bif !(val.1.getD 0 TC.d).bool then some (weqNodeOfS.q4 false) else weqNodeOfS.L4 y0 y1 (IntKind.i64.wrap (y2 + 1)) else none
        else none
      else none
    else none
  else none
else some weqNodeOfS.x4 := by
  refine (lpL_eq (Y := Y) (c := lim' Y) (fn := 25) (rid := 4) (b := bodyAt 4 weqNodeOfS.c) (by kernel_rfl) _).trans ?_
  delta weqNodeOfS.L4 weqNodeOf weqNodeOfS.q4 weqNodeOfS.x4 XX
  generalize lpL (Y.ctx (lim' Y)) 25 = lp
  generalize lim' Y = call
  kernel_rfl
theorem weqNodeOfS.a4q4 (y0 : Bool) :
    weqNodeOfS.A4 (weqNodeOfS.q4 y0) =
    some { cells := [TC.v (Value.bool y0)], objs := [] } := by
  delta weqNodeOfS.A4 weqNodeOfS.q4 XX
  generalize lpL (Y.ctx (lim' Y)) 25 = lp
  generalize lim' Y = call
  kernel_rfl
theorem weqNodeOfS.a4x4 :
    weqNodeOfS.A4 weqNodeOfS.x4 =
    some { cells := [TC.v (Value.bool true)], objs := [] } := by
  delta weqNodeOfS.A4 weqNodeOfS.x4 XX
  generalize lpL (Y.ctx (lim' Y)) 25 = lp
  generalize lim' Y = call
  kernel_rfl


noncomputable def wmarkNodeOfS.L2 (y0 : Int) (y1 : Int) (y2 : List (List D)) : Option (Ex × St) := lpL XX 26 (bodyAt 2 wmarkNodeOfS.c)
  (mkG 1 27 [(0, AV.one (A1.r 0 [] 0)), (1, AV.one (A1.v (Value.int IntKind.i64 y0))), (5, AV.one (A1.v (Value.int IntKind.i64 y1)))]
    [(0, some { kind := Kind.virt, row := [D.s y2], fl := [Own.deep] })] GL)
noncomputable def wmarkNodeOfS.A2 : Ex × St → Option Res := fun r => evA XX 26 (lpL XX 26) 2 wmarkNodeOfS.c r.fst r.snd (outE XX 26 Tryd.f26)
noncomputable def wmarkNodeOfS.x2 (y0 : Int) (y1 : List (List D)) : Ex × St := (Ex.exit 0, mkG 1 27 [(1, AV.one (A1.v (Value.int IntKind.i64 y0)))] [(0, some { kind := Kind.virt, row := [D.s y1], fl := [Own.deep] })] GL)
theorem wmarkNodeOfS.e (a0 : List (List D)) (a1 : Int) :
    wmarkNodeOfS [AV.one (A1.r 0 [] 0), AV.one (A1.v (Value.int IntKind.i64 a1))] [{ kind := Kind.virt, row := [D.s a0], fl := [Own.deep] }] =
    (wmarkNodeOfS.L2 a1 0 a0).bind wmarkNodeOfS.A2 := by
  refine (wmarkNodeOfS.run _ _ (by kernel_rfl)).trans ?_
  delta wmarkNodeOfS wmarkNodeOfS.L2 wmarkNodeOfS.A2 XX
  generalize lpL (Y.ctx (lim' Y)) 26 = lp
  generalize lim' Y = call
  kernel_rfl
theorem wmarkNodeOfS.s2 (y0 : Int) (y1 : Int) (y2 : List (List D)) :
    wmarkNodeOfS.L2 y0 y1 y2 =
    bif decide (y1 < (↑y2.length : Int)) then
  bif decide (0 ≤ y1) && decide (y1 < (↑y2.length : Int)) && decide ((y2.getD y1.toNat []).length = 2) then
    bif decide (1 ≤ (y2.getD y1.toNat []).length) && true then
      bif
          decide (0 ≤ y1) && decide (y1 < (↑(y2.set y1.toNat (D.v (Value.int IntKind.i64 y0) :: List.drop 1 (y2.getD y1.toNat []))).length : Int)) &&
            decide (((y2.set y1.toNat (D.v (Value.int IntKind.i64 y0) :: List.drop 1 (y2.getD y1.toNat []))).getD y1.toNat []).length = 2) then
        bif
            fitsRow [CK.sl] ((y2.set y1.toNat (D.v (Value.int IntKind.i64 y0) :: List.drop 1 (y2.getD y1.toNat []))).getD y1.toNat []) 1 &&
              decide (2 ≤ ((y2.set y1.toNat (D.v (Value.int IntKind.i64 y0) :: List.drop 1 (y2.getD y1.toNat []))).getD y1.toNat []).length) then
          (wmarkStringS [AV.one (A1.r 0 [] 0), AV.one (A1.v (Value.int IntKind.i64 (IntKind.i64.wrap (y0 + 1))))]
                [{ kind := Kind.virt, row := [D.s (((y2.set y1.toNat (D.v (Value.int IntKind.i64 y0) :: List.drop 1 (y2.getD y1.toNat []))).getD y1.toNat []).getD 1 D.h).es], fl := [Own.deep] }]).bind
            fun val =>
            bif
                fitsCells [R1.int IntKind.i64] val.1 &&
                  fitsCos
                    [{
                        ob :=
                          { kind := Kind.virt, row := [D.s (((y2.set y1.toNat (D.v (Value.int IntKind.i64 y0) :: List.drop 1 (y2.getD y1.toNat []))).getD y1.toNat []).getD 1 D.h).es],
                            fl := [Own.deep] },
                        src := Src.sl 0 [(0, y1.toNat)] 1 }]
                    val.2 then
              wmarkNodeOfS.L2 (val.1.getD 0 TC.d).int (IntKind.i64.wrap (y1 + 1))
                ((y2.set y1.toNat (D.v (Value.int IntKind.i64 y0) :: List.drop 1 (y2.getD y1.toNat []))).set y1.toNat
                  (((y2.set y1.toNat (D.v (Value.int IntKind.i64 y0) :: List.drop 1 (y2.getD y1.toNat []))).getD y1.toNat []).set 1
                    (D.s ((val.2.getD 0 { kind := Kind.ro, row := [], fl := [] }).2.getD 0 D.h).es)))
            else none
        else none
      else none
    else none
  else none
else some (wmarkNodeOfS.x2 y0 y2) := by
  refine (lpL_eq (Y := Y) (c := lim' Y) (fn := 26) (rid := 2) (b := bodyAt 2 wmarkNodeOfS.c) (by kernel_rfl) _).trans ?_
  delta wmarkNodeOfS.L2 wmarkStringS wmarkNodeOfS.x2 XX
  generalize lpL (Y.ctx (lim' Y)) 26 = lp
  generalize lim' Y = call
  kernel_rfl
theorem wmarkNodeOfS.a2x2 (y0 : Int) (y1 : List (List D)) :
    wmarkNodeOfS.A2 (wmarkNodeOfS.x2 y0 y1) =
    some { cells := [TC.v (Value.int IntKind.i64 y0)], objs := [{ kind := Kind.virt, row := [D.s y1], fl := [Own.deep] }] } := by
  delta wmarkNodeOfS.A2 wmarkNodeOfS.x2 XX
  generalize lpL (Y.ctx (lim' Y)) 26 = lp
  generalize lim' Y = call
  kernel_rfl


noncomputable def wheldNodeOfS.L2 (y0 : List (List D)) (y1 : Int) (y2 : Int) : Option (Ex × St) := lpL XX 27 (bodyAt 2 wheldNodeOfS.c) (mkG 0 31 [(0, AV.one (A1.s y0)), (1, AV.one (A1.v (Value.int IntKind.i64 y1))), (5, AV.one (A1.v (Value.int IntKind.i64 y2)))] [] GL)
noncomputable def wheldNodeOfS.A2 : Ex × St → Option Res := fun r => evA XX 27 (lpL XX 27) 2 wheldNodeOfS.c r.fst r.snd (outE XX 27 Tryd.f27)
noncomputable def wheldNodeOfS.q2 (y0 : Int) (y1 : Int) : Ex × St := (Ex.ret, mkG 0 31 [(1, AV.one (A1.v (Value.int IntKind.i64 y0))), (4, AV.one (A1.v (Value.int IntKind.i64 y1)))] [] GL)
noncomputable def wheldNodeOfS.x2 (y0 : Int) : Ex × St := (Ex.exit 0, mkG 0 31 [(1, AV.one (A1.v (Value.int IntKind.i64 y0)))] [] GL)
theorem wheldNodeOfS.e (a0 : List (List D)) (a1 : Int) :
    wheldNodeOfS [AV.one (A1.s a0), AV.one (A1.v (Value.int IntKind.i64 a1))] [] =
    (wheldNodeOfS.L2 a0 a1 0).bind wheldNodeOfS.A2 := by
  refine (wheldNodeOfS.run _ _ (by kernel_rfl)).trans ?_
  delta wheldNodeOfS wheldNodeOfS.L2 wheldNodeOfS.A2 XX
  generalize lpL (Y.ctx (lim' Y)) 27 = lp
  generalize lim' Y = call
  kernel_rfl
theorem wheldNodeOfS.s2 (y0 : List (List D)) (y1 : Int) (y2 : Int) :
    wheldNodeOfS.L2 y0 y1 y2 =
    bif decide (y2 < (↑y0.length : Int)) then
  bif decide (0 ≤ y2) && decide (y2 < (↑y0.length : Int)) && decide ((y0.getD y2.toNat []).length = 2) then
    bif fitsRow [CK.int IntKind.i64] (y0.getD y2.toNat []) 0 && decide (1 ≤ (y0.getD y2.toNat []).length) then
      bif ((y0.getD y2.toNat []).getD 0 D.h).int != y1 then some (wheldNodeOfS.q2 y1 (-1))
      else
        bif decide (0 ≤ y2) && decide (y2 < (↑y0.length : Int)) && decide ((y0.getD y2.toNat []).length = 2) then
          bif fitsRow [CK.sl] (y0.getD y2.toNat []) 1 && decide (2 ≤ (y0.getD y2.toNat []).length) then
            (wheldStringS [AV.one (A1.s ((y0.getD y2.toNat []).getD 1 D.h).es), AV.one (A1.v (Value.int IntKind.i64 (IntKind.i64.wrap (y1 + 1))))] []).bind fun val =>
              bif fitsCells [R1.int IntKind.i64] val.1 && true then
                bif decide ((val.1.getD 0 TC.d).int < 0) then some (wheldNodeOfS.q2 (val.1.getD 0 TC.d).int (-1)) else wheldNodeOfS.L2 y0 (val.1.getD 0 TC.d).int (IntKind.i64.wrap (y2 + 1))
              else none
          else none
        else none
    else none
  else none
else some (wheldNodeOfS.x2 y1) := by
  refine (lpL_eq (Y := Y) (c := lim' Y) (fn := 27) (rid := 2) (b := bodyAt 2 wheldNodeOfS.c) (by kernel_rfl) _).trans ?_
  delta wheldNodeOfS.L2 wheldNodeOfS.q2 wheldStringS wheldNodeOfS.x2 XX
  generalize lpL (Y.ctx (lim' Y)) 27 = lp
  generalize lim' Y = call
  kernel_rfl
theorem wheldNodeOfS.a2q2 (y0 : Int) (y1 : Int) :
    wheldNodeOfS.A2 (wheldNodeOfS.q2 y0 y1) =
    some { cells := [TC.v (Value.int IntKind.i64 y1)], objs := [] } := by
  delta wheldNodeOfS.A2 wheldNodeOfS.q2 XX
  generalize lpL (Y.ctx (lim' Y)) 27 = lp
  generalize lim' Y = call
  kernel_rfl
theorem wheldNodeOfS.a2x2 (y0 : Int) :
    wheldNodeOfS.A2 (wheldNodeOfS.x2 y0) =
    some { cells := [TC.v (Value.int IntKind.i64 y0)], objs := [] } := by
  delta wheldNodeOfS.A2 wheldNodeOfS.x2 XX
  generalize lpL (Y.ctx (lim' Y)) 27 = lp
  generalize lim' Y = call
  kernel_rfl


noncomputable def weqStringS.L4 (y0 : List (List D)) (y1 : List (List D)) (y2 : Int) : Option (Ex × St) := lpL XX 36 (bodyAt 4 weqStringS.c) (mkG 0 26 [(0, AV.one (A1.s y0)), (1, AV.one (A1.s y1)), (5, AV.one (A1.v (Value.int IntKind.i64 y2)))] [] GL)
noncomputable def weqStringS.A4 : Ex × St → Option Res := fun r => evA XX 36 (lpL XX 36) 4 weqStringS.c r.fst r.snd (outE XX 36 Tryd.f36)
noncomputable def weqStringS.q4 (y0 : Bool) : Ex × St := (Ex.ret, mkG 0 26 [(4, AV.one (A1.v (Value.bool y0)))] [] GL)
noncomputable def weqStringS.x4 : Ex × St := (Ex.exit 0, mkG 0 26 [] [] GL)
theorem weqStringS.e (a0 : List (List D)) (a1 : List (List D)) :
    weqStringS [AV.one (A1.s a0), AV.one (A1.s a1)] [] =
    bif (↑a0.length : Int) != (↑a1.length : Int) then some { cells := [TC.v (Value.bool false)], objs := [] } else (weqStringS.L4 a0 a1 0).bind weqStringS.A4 := by
  refine (weqStringS.run _ _ (by kernel_rfl)).trans ?_
  delta weqStringS weqStringS.L4 weqStringS.A4 XX
  generalize lpL (Y.ctx (lim' Y)) 36 = lp
  generalize lim' Y = call
  kernel_rfl
theorem weqStringS.s4 (y0 : List (List D)) (y1 : List (List D)) (y2 : Int) :
    weqStringS.L4 y0 y1 y2 =
    bif decide (y2 < (↑y0.length : Int)) then
  bif decide (0 ≤ y2) && decide (y2 < (↑y0.length : Int)) && decide ((y0.getD y2.toNat []).length = 1) then
    bif fitsRow [CK.str] (y0.getD y2.toNat []) 0 && decide (1 ≤ (y0.getD y2.toNat []).length) then
      bif decide (0 ≤ y2) && decide (y2 < (↑y1.length : Int)) && decide ((y1.getD y2.toNat []).length = 1) then
        bif fitsRow [CK.str] (y1.getD y2.toNat []) 0 && decide (1 ≤ (y1.getD y2.toNat []).length) then
          bif !((y0.getD y2.toNat []).getD 0 D.h).str.toList == ((y1.getD y2.toNat []).getD 0 D.h).str.toList then some (weqStringS.q4 false) else weqStringS.L4 y0 y1 (IntKind.i64.wrap (y2 + 1))
        else none
      else none
    else none
  else none
else some weqStringS.x4 := by
  refine (lpL_eq (Y := Y) (c := lim' Y) (fn := 36) (rid := 4) (b := bodyAt 4 weqStringS.c) (by kernel_rfl) _).trans ?_
  delta weqStringS.L4 weqStringS.q4 weqStringS.x4 XX
  generalize lpL (Y.ctx (lim' Y)) 36 = lp
  generalize lim' Y = call
  kernel_rfl
theorem weqStringS.a4q4 (y0 : Bool) :
    weqStringS.A4 (weqStringS.q4 y0) =
    some { cells := [TC.v (Value.bool y0)], objs := [] } := by
  delta weqStringS.A4 weqStringS.q4 XX
  generalize lpL (Y.ctx (lim' Y)) 36 = lp
  generalize lim' Y = call
  kernel_rfl
theorem weqStringS.a4x4 :
    weqStringS.A4 weqStringS.x4 =
    some { cells := [TC.v (Value.bool true)], objs := [] } := by
  delta weqStringS.A4 weqStringS.x4 XX
  generalize lpL (Y.ctx (lim' Y)) 36 = lp
  generalize lim' Y = call
  kernel_rfl


noncomputable def wmarkStringS.L2 (y0 : Int) (y1 : Int) (y2 : List (List D)) : Option (Ex × St) := lpL XX 37 (bodyAt 2 wmarkStringS.c)
  (mkG 1 20 [(0, AV.one (A1.r 0 [] 0)), (1, AV.one (A1.v (Value.int IntKind.i64 y0))), (5, AV.one (A1.v (Value.int IntKind.i64 y1)))]
    [(0, some { kind := Kind.virt, row := [D.s y2], fl := [Own.deep] })] GL)
noncomputable def wmarkStringS.A2 : Ex × St → Option Res := fun r => evA XX 37 (lpL XX 37) 2 wmarkStringS.c r.fst r.snd (outE XX 37 Tryd.f37)
noncomputable def wmarkStringS.x2 (y0 : Int) (y1 : List (List D)) : Ex × St := (Ex.exit 0, mkG 1 20 [(1, AV.one (A1.v (Value.int IntKind.i64 y0)))] [(0, some { kind := Kind.virt, row := [D.s y1], fl := [Own.deep] })] GL)
theorem wmarkStringS.e (a0 : List (List D)) (a1 : Int) :
    wmarkStringS [AV.one (A1.r 0 [] 0), AV.one (A1.v (Value.int IntKind.i64 a1))] [{ kind := Kind.virt, row := [D.s a0], fl := [Own.deep] }] =
    (wmarkStringS.L2 a1 0 a0).bind wmarkStringS.A2 := by
  refine (wmarkStringS.run _ _ (by kernel_rfl)).trans ?_
  delta wmarkStringS wmarkStringS.L2 wmarkStringS.A2 XX
  generalize lpL (Y.ctx (lim' Y)) 37 = lp
  generalize lim' Y = call
  kernel_rfl
theorem wmarkStringS.s2 (y0 : Int) (y1 : Int) (y2 : List (List D)) :
    wmarkStringS.L2 y0 y1 y2 =
    bif decide (y1 < (↑y2.length : Int)) then
  (wmarkText [AV.one (A1.v (Value.int IntKind.i64 y0))] []).bind fun val =>
    bif fitsCells [R1.str] val.1 && true then
      bif decide (0 ≤ y1) && decide (y1 < (↑y2.length : Int)) && decide ((y2.getD y1.toNat []).length = 1) then
        bif decide (1 ≤ (y2.getD y1.toNat []).length) && true then
          wmarkStringS.L2 (IntKind.i64.wrap (y0 + 1)) (IntKind.i64.wrap (y1 + 1)) (y2.set y1.toNat (D.v (Value.string (val.1.getD 0 TC.d).str) :: List.drop 1 (y2.getD y1.toNat [])))
        else none
      else none
    else none
else some (wmarkStringS.x2 y0 y2) := by
  refine (lpL_eq (Y := Y) (c := lim' Y) (fn := 37) (rid := 2) (b := bodyAt 2 wmarkStringS.c) (by kernel_rfl) _).trans ?_
  delta wmarkStringS.L2 wmarkText wmarkStringS.x2 XX
  generalize lpL (Y.ctx (lim' Y)) 37 = lp
  generalize lim' Y = call
  kernel_rfl
theorem wmarkStringS.a2x2 (y0 : Int) (y1 : List (List D)) :
    wmarkStringS.A2 (wmarkStringS.x2 y0 y1) =
    some { cells := [TC.v (Value.int IntKind.i64 y0)], objs := [{ kind := Kind.virt, row := [D.s y1], fl := [Own.deep] }] } := by
  delta wmarkStringS.A2 wmarkStringS.x2 XX
  generalize lpL (Y.ctx (lim' Y)) 37 = lp
  generalize lim' Y = call
  kernel_rfl


noncomputable def wheldStringS.L2 (y0 : List (List D)) (y1 : Int) (y2 : Int) : Option (Ex × St) := lpL XX 38 (bodyAt 2 wheldStringS.c) (mkG 0 22 [(0, AV.one (A1.s y0)), (1, AV.one (A1.v (Value.int IntKind.i64 y1))), (5, AV.one (A1.v (Value.int IntKind.i64 y2)))] [] GL)
noncomputable def wheldStringS.A2 : Ex × St → Option Res := fun r => evA XX 38 (lpL XX 38) 2 wheldStringS.c r.fst r.snd (outE XX 38 Tryd.f38)
noncomputable def wheldStringS.q2 (y0 : Int) (y1 : Int) : Ex × St := (Ex.ret, mkG 0 22 [(1, AV.one (A1.v (Value.int IntKind.i64 y0))), (4, AV.one (A1.v (Value.int IntKind.i64 y1)))] [] GL)
noncomputable def wheldStringS.x2 (y0 : Int) : Ex × St := (Ex.exit 0, mkG 0 22 [(1, AV.one (A1.v (Value.int IntKind.i64 y0)))] [] GL)
theorem wheldStringS.e (a0 : List (List D)) (a1 : Int) :
    wheldStringS [AV.one (A1.s a0), AV.one (A1.v (Value.int IntKind.i64 a1))] [] =
    (wheldStringS.L2 a0 a1 0).bind wheldStringS.A2 := by
  refine (wheldStringS.run _ _ (by kernel_rfl)).trans ?_
  delta wheldStringS wheldStringS.L2 wheldStringS.A2 XX
  generalize lpL (Y.ctx (lim' Y)) 38 = lp
  generalize lim' Y = call
  kernel_rfl
theorem wheldStringS.s2 (y0 : List (List D)) (y1 : Int) (y2 : Int) :
    wheldStringS.L2 y0 y1 y2 =
    bif decide (y2 < (↑y0.length : Int)) then
  bif decide (0 ≤ y2) && decide (y2 < (↑y0.length : Int)) && decide ((y0.getD y2.toNat []).length = 1) then
    bif fitsRow [CK.str] (y0.getD y2.toNat []) 0 && decide (1 ≤ (y0.getD y2.toNat []).length) then
      (wmarkText [AV.one (A1.v (Value.int IntKind.i64 y1))] []).bind fun val =>
        bif fitsCells [R1.str] val.1 && true then
          bif !((y0.getD y2.toNat []).getD 0 D.h).str.toList == (val.1.getD 0 TC.d).str.toList then some (wheldStringS.q2 y1 (-1))
          else wheldStringS.L2 y0 (IntKind.i64.wrap (y1 + 1)) (IntKind.i64.wrap (y2 + 1))
        else none
    else none
  else none
else some (wheldStringS.x2 y1) := by
  refine (lpL_eq (Y := Y) (c := lim' Y) (fn := 38) (rid := 2) (b := bodyAt 2 wheldStringS.c) (by kernel_rfl) _).trans ?_
  delta wheldStringS.L2 wmarkText wheldStringS.q2 wheldStringS.x2 XX
  generalize lpL (Y.ctx (lim' Y)) 38 = lp
  generalize lim' Y = call
  kernel_rfl
theorem wheldStringS.a2q2 (y0 : Int) (y1 : Int) :
    wheldStringS.A2 (wheldStringS.q2 y0 y1) =
    some { cells := [TC.v (Value.int IntKind.i64 y1)], objs := [] } := by
  delta wheldStringS.A2 wheldStringS.q2 XX
  generalize lpL (Y.ctx (lim' Y)) 38 = lp
  generalize lim' Y = call
  kernel_rfl
theorem wheldStringS.a2x2 (y0 : Int) :
    wheldStringS.A2 (wheldStringS.x2 y0) =
    some { cells := [TC.v (Value.int IntKind.i64 y0)], objs := [] } := by
  delta wheldStringS.A2 wheldStringS.x2 XX
  generalize lpL (Y.ctx (lim' Y)) 38 = lp
  generalize lim' Y = call
  kernel_rfl


theorem sl21In.e (a0 : Int) (a1 : Int) (a2 : Int) :
    sl21In [AV.one (A1.v (Value.int IntKind.i64 a0)), AV.one (A1.v (Value.int IntKind.i64 a1)), AV.one (A1.v (Value.int IntKind.i64 a2))] [] =
    bif decide (a0 ≥ a1) then some { cells := [TC.v (Value.bool (decide (a0 ≤ a2)))], objs := [] } else some { cells := [TC.v (Value.bool false)], objs := [] } := by
  refine (sl21In.run _ _ (by kernel_rfl)).trans ?_
  delta sl21In XX
  generalize lpL (Y.ctx (lim' Y)) 39 = lp
  generalize lim' Y = call
  kernel_rfl


theorem sl1In.e (a0 : Int) (a1 : Int) (a2 : Int) :
    sl1In [AV.one (A1.v (Value.int IntKind.i64 a0)), AV.one (A1.v (Value.int IntKind.i64 a1)), AV.one (A1.v (Value.int IntKind.i64 a2))] [] =
    bif decide (a0 ≥ a1) then some { cells := [TC.v (Value.bool (decide (a0 ≤ a2)))], objs := [] } else some { cells := [TC.v (Value.bool false)], objs := [] } := by
  refine (sl1In.run _ _ (by kernel_rfl)).trans ?_
  delta sl1In XX
  generalize lpL (Y.ctx (lim' Y)) 40 = lp
  generalize lim' Y = call
  kernel_rfl


noncomputable def sl2PathOk.L2 (y0 : List (List D)) (y1 : Int) : Option (Ex × St) := lpL XX 41 (bodyAt 2 sl2PathOk.c) (mkG 0 19 [(0, AV.one (A1.s y0)), (3, AV.one (A1.v (Value.int IntKind.i64 y1)))] [] GL)
noncomputable def sl2PathOk.A2 : Ex × St → Option Res := fun r => evA XX 41 (lpL XX 41) 2 sl2PathOk.c r.fst r.snd (outE XX 41 Tryd.f41)
noncomputable def sl2PathOk.q2 (y0 : List (List D)) (y1 : Bool) : Ex × St := (Ex.ret, mkG 0 19 [(0, AV.one (A1.s y0)), (2, AV.one (A1.v (Value.bool y1)))] [] GL)
noncomputable def sl2PathOk.x2 (y0 : List (List D)) : Ex × St := (Ex.exit 0, mkG 0 19 [(0, AV.one (A1.s y0))] [] GL)
theorem sl2PathOk.e (a0 : List (List D)) :
    sl2PathOk [AV.one (A1.s a0)] [] =
    (sl2PathOk.L2 a0 0).bind sl2PathOk.A2 := by
  refine (sl2PathOk.run _ _ (by kernel_rfl)).trans ?_
  delta sl2PathOk sl2PathOk.L2 sl2PathOk.A2 XX
  generalize lpL (Y.ctx (lim' Y)) 41 = lp
  generalize lim' Y = call
  kernel_rfl
theorem sl2PathOk.s2 (y0 : List (List D)) (y1 : Int) :
    sl2PathOk.L2 y0 y1 =
    bif decide (y1 < (↑y0.length : Int)) then
  bif decide (0 ≤ y1) && decide (y1 < (↑y0.length : Int)) && decide ((y0.getD y1.toNat []).length = 1) then
    bif fitsRow [CK.str] (y0.getD y1.toNat []) 0 && decide (1 ≤ (y0.getD y1.toNat []).length) then
      (sl1NameOk [AV.one (A1.v (Value.string ((y0.getD y1.toNat []).getD 0 D.h).str))] []).bind fun val =>
        bif fitsCells [R1.bool] val.1 && true then bif !(val.1.getD 0 TC.d).bool then some (sl2PathOk.q2 y0 false) else sl2PathOk.L2 y0 (IntKind.i64.wrap (y1 + 1)) else none
    else none
  else none
else some (sl2PathOk.x2 y0) := by
  refine (lpL_eq (Y := Y) (c := lim' Y) (fn := 41) (rid := 2) (b := bodyAt 2 sl2PathOk.c) (by kernel_rfl) _).trans ?_
  delta sl2PathOk.L2 sl1NameOk sl2PathOk.q2 sl2PathOk.x2 XX
  generalize lpL (Y.ctx (lim' Y)) 41 = lp
  generalize lim' Y = call
  kernel_rfl
theorem sl2PathOk.a2q2 (y0 : List (List D)) (y1 : Bool) :
    sl2PathOk.A2 (sl2PathOk.q2 y0 y1) =
    some { cells := [TC.v (Value.bool y1)], objs := [] } := by
  delta sl2PathOk.A2 sl2PathOk.q2 XX
  generalize lpL (Y.ctx (lim' Y)) 41 = lp
  generalize lim' Y = call
  kernel_rfl
theorem sl2PathOk.a2x2 (y0 : List (List D)) :
    sl2PathOk.A2 (sl2PathOk.x2 y0) =
    (sl1In [AV.one (A1.v (Value.int IntKind.i64 (↑y0.length : Int))), AV.one (A1.v (Value.int IntKind.i64 1)), AV.one (A1.v (Value.int IntKind.i64 4))] []).bind fun val =>
  bif fitsCells [R1.bool] val.1 && true then some { cells := [TC.v (Value.bool (val.1.getD 0 TC.d).bool)], objs := [] } else none := by
  delta sl2PathOk.A2 sl2PathOk.x2 sl1In XX
  generalize lpL (Y.ctx (lim' Y)) 41 = lp
  generalize lim' Y = call
  kernel_rfl


noncomputable def sl11Less.L2 (y0 : List (List D)) (y1 : List (List D)) (y2 : Int) : Option (Ex × St) := lpL XX 42 (bodyAt 2 sl11Less.c) (mkG 0 41 [(0, AV.one (A1.s y0)), (1, AV.one (A1.s y1)), (5, AV.one (A1.v (Value.int IntKind.i64 y2)))] [] GL)
noncomputable def sl11Less.A2 : Ex × St → Option Res := fun r => evA XX 42 (lpL XX 42) 2 sl11Less.c r.fst r.snd (outE XX 42 Tryd.f42)
noncomputable def sl11Less.P4 (y0 : List (List D)) (y1 : List (List D)) (y2 : Int) : Option (Ex × St) := evB XX 42 (lpL XX 42) 4 (bodyAt 2 sl11Less.c) (mkG 0 41 [(0, AV.one (A1.s y0)), (1, AV.one (A1.s y1)), (5, AV.one (A1.v (Value.int IntKind.i64 y2)))] [] GL)
  (backL (lpL XX 42) (bodyAt 2 sl11Less.c) (XX.live 42 2))
noncomputable def sl11Less.x2 (y0 : List (List D)) (y1 : List (List D)) : Ex × St := (Ex.exit 0, mkG 0 41 [(0, AV.one (A1.s y0)), (1, AV.one (A1.s y1))] [] GL)
noncomputable def sl11Less.q2 (y0 : List (List D)) (y1 : List (List D)) (y2 : Bool) : Ex × St := (Ex.ret, mkG 0 41 [(0, AV.one (A1.s y0)), (1, AV.one (A1.s y1)), (4, AV.one (A1.v (Value.bool y2)))] [] GL)
theorem sl11Less.e (a0 : List (List D)) (a1 : List (List D)) :
    sl11Less [AV.one (A1.s a0), AV.one (A1.s a1)] [] =
    (sl11Less.L2 a0 a1 0).bind sl11Less.A2 := by
  refine (sl11Less.run _ _ (by kernel_rfl)).trans ?_
  delta sl11Less sl11Less.L2 sl11Less.A2 XX
  generalize lpL (Y.ctx (lim' Y)) 42 = lp
  generalize lim' Y = call
  kernel_rfl
theorem sl11Less.s2 (y0 : List (List D)) (y1 : List (List D)) (y2 : Int) :
    sl11Less.L2 y0 y1 y2 =
    bif decide (y2 < (↑y0.length : Int)) then bif decide (y2 < (↑y1.length : Int)) then sl11Less.P4 y0 y1 y2 else some (sl11Less.x2 y0 y1) else some (sl11Less.x2 y0 y1) := by
  refine (lpL_eq (Y := Y) (c := lim' Y) (fn := 42) (rid := 2) (b := bodyAt 2 sl11Less.c) (by kernel_rfl) _).trans ?_
  delta sl11Less.L2 sl11Less.P4 sl11Less.x2 XX
  refine join_use [4] (by kernel_rfl) fun J e1 => ?_
  try simp only [← e1]
  clear e1
  generalize lpL (Y.ctx (lim' Y)) 42 = lp
  generalize lim' Y = call
  kernel_rfl
theorem sl11Less.p4 (y0 : List (List D)) (y1 : List (List D)) (y2 : Int) :
    sl11Less.P4 y0 y1 y2 =
    bif decide (0 ≤ y2) && decide (y2 < (↑y0.length : Int)) && decide ((y0.getD y2.toNat []).length = 1) then
  bif fitsRow [CK.str] (y0.getD y2.toNat []) 0 && decide (1 ≤ (y0.getD y2.toNat []).length) then
    bif decide (0 ≤ y2) && decide (y2 < (↑y1.length : Int)) && decide ((y1.getD y2.toNat []).length = 1) then
      bif fitsRow [CK.str] (y1.getD y2.toNat []) 0 && decide (1 ≤ (y1.getD y2.toNat []).length) then
        bif !((y0.getD y2.toNat []).getD 0 D.h).str.toList == ((y1.getD y2.toNat []).getD 0 D.h).str.toList then
          bif decide (0 ≤ y2) && decide (y2 < (↑y0.length : Int)) && decide ((y0.getD y2.toNat []).length = 1) then
            bif fitsRow [CK.str] (y0.getD y2.toNat []) 0 && decide (1 ≤ (y0.getD y2.toNat []).length) then
              bif decide (0 ≤ y2) && decide (y2 < (↑y1.length : Int)) && decide ((y1.getD y2.toNat []).length = 1) then
                bif fitsRow [CK.str] (y1.getD y2.toNat []) 0 && decide (1 ≤ (y1.getD y2.toNat []).length) then
                  some (sl11Less.q2 y0 y1 (Op.bytesLess ((y0.getD y2.toNat []).getD 0 D.h).str.toList ((y1.getD y2.toNat []).getD 0 D.h).str.toList))
                else none
              else none
            else none
          else none
        else sl11Less.L2 y0 y1 (IntKind.i64.wrap (y2 + 1))
      else none
    else none
  else none
else none := by
  delta sl11Less.P4 sl11Less.q2 sl11Less.L2 XX
  refine join_at [4] 4 (by kernel_rfl) fun J e1 => ?_
  try simp only [← e1]
  clear e1
  generalize lpL (Y.ctx (lim' Y)) 42 = lp
  generalize lim' Y = call
  kernel_rfl
theorem sl11Less.a2x2 (y0 : List (List D)) (y1 : List (List D)) :
    sl11Less.A2 (sl11Less.x2 y0 y1) =
    some { cells := [TC.v (Value.bool (decide ((↑y0.length : Int) < (↑y1.length : Int))))], objs := [] } := by
  delta sl11Less.A2 sl11Less.x2 XX
  generalize lpL (Y.ctx (lim' Y)) 42 = lp
  generalize lim' Y = call
  kernel_rfl
theorem sl11Less.a2q2 (y0 : List (List D)) (y1 : List (List D)) (y2 : Bool) :
    sl11Less.A2 (sl11Less.q2 y0 y1 y2) =
    some { cells := [TC.v (Value.bool y2)], objs := [] } := by
  delta sl11Less.A2 sl11Less.q2 XX
  generalize lpL (Y.ctx (lim' Y)) 42 = lp
  generalize lim' Y = call
  kernel_rfl


theorem sl1Dec.e (a0 : Int) :
    sl1Dec [AV.one (A1.v (Value.int IntKind.i64 a0))] [] =
    bif decide (a0 < -9223372036854775807) then
  some
    {
      cells :=
        [TC.v
            (Value.string
              (ByteArray.mk #[45, 57, 50, 50, 51, 51, 55, 50, 48, 51, 54, 56, 53, 52, 55, 55, 53, 56, 48, 56]))],
      objs := [] }
else
  bif decide (a0 < 0) then
    (sl1Dec [AV.one (A1.v (Value.int IntKind.i64 (IntKind.i64.wrap (0 - a0))))] []).bind fun val =>
      bif fitsCells [R1.str] val.1 && true then
        bif decide (1 + (val.1.getD 0 TC.d).str.size ≤ 70368744177664) then some { cells := [TC.v (Value.string ((ByteArray.mk #[45]) ++ (val.1.getD 0 TC.d).str))], objs := [] } else none
      else none
  else
    bif decide (a0 < 10) then some { cells := [TC.v (Value.string (strOf [[D.v (Value.int IntKind.u8 (IntKind.u8.wrap (IntKind.i64.wrap (48 + a0))))]]))], objs := [] }
    else
      (sl1Dec [AV.one (A1.v (Value.int IntKind.i64 (IntKind.i64.wrap (a0.tdiv 10))))] []).bind fun val =>
        bif fitsCells [R1.str] val.1 && true then
          bif decide ((val.1.getD 0 TC.d).str.size + 1 ≤ 70368744177664) then
            some { cells := [TC.v (Value.string ((val.1.getD 0 TC.d).str ++ strOf [[D.v (Value.int IntKind.u8 (IntKind.u8.wrap (IntKind.i64.wrap (48 + a0.tmod 10))))]]))], objs := [] }
          else none
        else none := by
  refine (sl1Dec.run _ _ (by kernel_rfl)).trans ?_
  delta sl1Dec XX
  generalize lpL (Y.ctx (lim' Y)) 43 = lp
  generalize lim' Y = call
  kernel_rfl


noncomputable def sl3Name.L3 (y0 : List (List D)) (y1 : ByteArray) (y2 : Int) : Option (Ex × St) := lpL XX 44 (bodyAt 3 sl3Name.c) (mkG 0 21 [(0, AV.one (A1.s y0)), (3, AV.one (A1.v (Value.string y1))), (4, AV.one (A1.v (Value.int IntKind.i64 y2)))] [] GL)
noncomputable def sl3Name.A3 : Ex × St → Option Res := fun r => evA XX 44 (lpL XX 44) 3 sl3Name.c r.fst r.snd (outE XX 44 Tryd.f44)
noncomputable def sl3Name.x3 (y0 : ByteArray) : Ex × St := (Ex.exit 0, mkG 0 21 [(3, AV.one (A1.v (Value.string y0)))] [] GL)
theorem sl3Name.e (a0 : List (List D)) :
    sl3Name [AV.one (A1.s a0)] [] =
    (sl3Name.L3 a0 (ByteArray.mk #[]) 0).bind sl3Name.A3 := by
  refine (sl3Name.run _ _ (by kernel_rfl)).trans ?_
  delta sl3Name sl3Name.L3 sl3Name.A3 XX
  generalize lpL (Y.ctx (lim' Y)) 44 = lp
  generalize lim' Y = call
  kernel_rfl
theorem sl3Name.s3 (y0 : List (List D)) (y1 : ByteArray) (y2 : Int) :
    sl3Name.L3 y0 y1 y2 =
    bif decide (y2 < (↑y0.length : Int)) then
  bif decide (y1.size + 1 ≤ 70368744177664) then
    bif decide (0 ≤ y2) && decide (y2 < (↑y0.length : Int)) && decide ((y0.getD y2.toNat []).length = 1) then
      bif fitsRow [CK.str] (y0.getD y2.toNat []) 0 && decide (1 ≤ (y0.getD y2.toNat []).length) then
        bif decide ((y1 ++ (ByteArray.mk #[47])).size + ((y0.getD y2.toNat []).getD 0 D.h).str.size ≤ 70368744177664) then
          sl3Name.L3 y0 (y1 ++ (ByteArray.mk #[47]) ++ ((y0.getD y2.toNat []).getD 0 D.h).str) (IntKind.i64.wrap (y2 + 1))
        else none
      else none
    else none
  else none
else some (sl3Name.x3 y1) := by
  refine (lpL_eq (Y := Y) (c := lim' Y) (fn := 44) (rid := 3) (b := bodyAt 3 sl3Name.c) (by kernel_rfl) _).trans ?_
  delta sl3Name.L3 sl3Name.x3 XX
  generalize lpL (Y.ctx (lim' Y)) 44 = lp
  generalize lim' Y = call
  kernel_rfl
theorem sl3Name.a3x3 (y0 : ByteArray) :
    sl3Name.A3 (sl3Name.x3 y0) =
    bif y0.toList == [] then some { cells := [TC.v (Value.string (ByteArray.mk #[47]))], objs := [] } else some { cells := [TC.v (Value.string y0)], objs := [] } := by
  delta sl3Name.A3 sl3Name.x3 XX
  generalize lpL (Y.ctx (lim' Y)) 44 = lp
  generalize lim' Y = call
  kernel_rfl


noncomputable def inodesWell.L2 (y0 : List (List D)) (y1 : Int) (y2 : Int) (y3 : Int) (y4 : List (List D)) : Option (Ex × St) := lpL XX 48 (bodyAt 2 inodesWell.c)
  (mkG 0 70 [(1, AV.one (A1.p true 1 [] 0)), (8, AV.one (A1.s y0)), (9, AV.one (A1.v (Value.int IntKind.i64 y1))), (10, AV.one (A1.v (Value.int IntKind.i64 y2)))]
    [(1, some { kind := Kind.box, row := [D.v (Value.int IntKind.i64 y3), D.s y4], fl := [Own.deep, Own.sh] })] GL)
noncomputable def inodesWell.A2 : Ex × St → Option Res := fun r => evA XX 48 (lpL XX 48) 2 inodesWell.c r.fst r.snd (outE XX 48 Tryd.f48)
noncomputable def inodesWell.P5 (y0 : Int) (y1 : List (List D)) (y2 : Int) (y3 : Int) (y4 : Bool) (y5 : Int) (y6 : List (List D)) (y7 : Int) (y8 : List (List D)) : Option (Ex × St) := evB XX 48 (lpL XX 48) 5 (bodyAt 2 inodesWell.c)
  (mkG 0 70
    [(1, AV.one (A1.p true 1 [] 0)), (3, AV.one (A1.v (Value.int IntKind.i64 y0))), (4, AV.one (A1.p true 4 [] 0)), (8, AV.one (A1.s y1)), (9, AV.one (A1.v (Value.int IntKind.i64 y2))),
      (10, AV.one (A1.v (Value.int IntKind.i64 y3))), (44, AV.one (A1.v (Value.bool y4)))]
    [(1, some { kind := Kind.box, row := [D.v (Value.int IntKind.i64 y5), D.s y6], fl := [Own.deep, Own.sh] }),
      (4, some { kind := Kind.box, row := [D.v (Value.int IntKind.i64 y7), D.s y8], fl := [Own.deep, Own.sh] })]
    GL)
  (backL (lpL XX 48) (bodyAt 2 inodesWell.c) (XX.live 48 2))
noncomputable def inodesWell.x2 (y0 : Int) (y1 : List (List D)) : Ex × St := (Ex.exit 0, mkG 0 70 [(1, AV.one (A1.p true 1 [] 0))] [(1, some { kind := Kind.box, row := [D.v (Value.int IntKind.i64 y0), D.s y1], fl := [Own.deep, Own.sh] })] GL)
noncomputable def inodesWell.q2 (y0 : Bool) (y1 : Int) (y2 : List (List D)) : Ex × St := (Ex.ret, mkG 0 70 [(1, AV.one (A1.p true 1 [] 0)), (2, AV.one (A1.v (Value.bool y0)))] [(1, some { kind := Kind.box, row := [D.v (Value.int IntKind.i64 y1), D.s y2], fl := [Own.deep, Own.sh] })] GL)
noncomputable def inodesWell.P6 (y0 : Int) (y1 : List (List D)) (y2 : Int) (y3 : Int) (y4 : Int) (y5 : List (List D)) (y6 : Int) (y7 : List (List D)) : Option (Ex × St) := evB XX 48 (lpL XX 48) 6 (bodyAt 2 inodesWell.c)
  (mkG 0 70
    [(1, AV.one (A1.p true 1 [] 0)), (3, AV.one (A1.v (Value.int IntKind.i64 y0))), (4, AV.one (A1.p true 4 [] 0)), (8, AV.one (A1.s y1)), (9, AV.one (A1.v (Value.int IntKind.i64 y2))),
      (10, AV.one (A1.v (Value.int IntKind.i64 y3)))]
    [(1, some { kind := Kind.box, row := [D.v (Value.int IntKind.i64 y4), D.s y5], fl := [Own.deep, Own.sh] }),
      (4, some { kind := Kind.box, row := [D.v (Value.int IntKind.i64 y6), D.s y7], fl := [Own.deep, Own.sh] })]
    GL)
  (backL (lpL XX 48) (bodyAt 2 inodesWell.c) (XX.live 48 2))
noncomputable def inodesWell.L7 (y0 : List (List D)) (y1 : Int) (y2 : Int) (y3 : List (List D)) (y4 : Int) (y5 : Int) (y6 : Int) (y7 : List (List D)) (y8 : Int) (y9 : List (List D)) : Option (Ex × St) := lpL XX 48 (bodyAt 7 (bodyAt 2 inodesWell.c))
  (mkG 0 70
    [(1, AV.one (A1.p true 1 [] 0)), (4, AV.one (A1.p true 4 [] 0)), (8, AV.one (A1.s y0)), (9, AV.one (A1.v (Value.int IntKind.i64 y1))), (10, AV.one (A1.v (Value.int IntKind.i64 y2))),
      (48, AV.one (A1.s y3)), (49, AV.one (A1.v (Value.int IntKind.i64 y4))), (50, AV.one (A1.v (Value.int IntKind.i64 y5)))]
    [(1, some { kind := Kind.box, row := [D.v (Value.int IntKind.i64 y6), D.s y7], fl := [Own.deep, Own.sh] }),
      (4, some { kind := Kind.box, row := [D.v (Value.int IntKind.i64 y8), D.s y9], fl := [Own.deep, Own.sh] })]
    GL)
noncomputable def inodesWell.A7 : Ex × St → Option (Ex × St) := fun r => evA XX 48 (lpL XX 48) 7 (bodyAt 2 inodesWell.c) r.fst r.snd (backL (lpL XX 48) (bodyAt 2 inodesWell.c) (XX.live 48 2))
noncomputable def inodesWell.q7 (y0 : Bool) (y1 : List (List D)) (y2 : Int) (y3 : Int) (y4 : Int) (y5 : List (List D)) : Ex × St := (Ex.ret,
  mkG 0 70 [(1, AV.one (A1.p true 1 [] 0)), (2, AV.one (A1.v (Value.bool y0))), (8, AV.one (A1.s y1)), (9, AV.one (A1.v (Value.int IntKind.i64 y2))), (10, AV.one (A1.v (Value.int IntKind.i64 y3)))]
    [(1, some { kind := Kind.box, row := [D.v (Value.int IntKind.i64 y4), D.s y5], fl := [Own.deep, Own.sh] })] GL)
noncomputable def inodesWell.x7 (y0 : List (List D)) (y1 : Int) (y2 : Int) (y3 : Int) (y4 : List (List D)) : Ex × St := (Ex.exit 2,
  mkG 0 70 [(1, AV.one (A1.p true 1 [] 0)), (8, AV.one (A1.s y0)), (9, AV.one (A1.v (Value.int IntKind.i64 y1))), (10, AV.one (A1.v (Value.int IntKind.i64 y2)))]
    [(1, some { kind := Kind.box, row := [D.v (Value.int IntKind.i64 y3), D.s y4], fl := [Own.deep, Own.sh] })] GL)
theorem inodesWell.e (a0 : Int) (a1 : List (List D)) :
    inodesWell [AV.g [A1.v (Value.int IntKind.i64 a0), A1.s a1]] [] =
    (inodesWell.L2 a1 (↑a1.length : Int) 0 a0 a1).bind inodesWell.A2 := by
  refine (inodesWell.run _ _ (by kernel_rfl)).trans ?_
  delta inodesWell inodesWell.L2 inodesWell.A2 XX
  generalize lpL (Y.ctx (lim' Y)) 48 = lp
  generalize lim' Y = call
  kernel_rfl
theorem inodesWell.s2 (y0 : List (List D)) (y1 : Int) (y2 : Int) (y3 : Int) (y4 : List (List D)) :
    inodesWell.L2 y0 y1 y2 y3 y4 =
    bif decide (y2 < y1) then
  bif decide (0 ≤ y2) && decide (y2 < (↑y0.length : Int)) && decide ((y0.getD y2.toNat []).length = 2) then
    bif fitsRow [CK.int IntKind.i64, CK.sl] (y0.getD y2.toNat []) 0 && decide (2 ≤ (y0.getD y2.toNat []).length) then
      (inamesOk [AV.one (A1.s ((y0.getD y2.toNat []).getD 1 D.h).es), AV.one (A1.v (Value.int IntKind.i64 1))] []).bind fun val =>
        bif fitsCells [R1.bool] val.1 && true then
          bif !(val.1.getD 0 TC.d).bool then inodesWell.P5 y2 y0 y1 y2 true y3 y4 ((y0.getD y2.toNat []).getD 0 D.h).int ((y0.getD y2.toNat []).getD 1 D.h).es
          else
            bif decide (y2 > 0) then
              bif decide (0 ≤ IntKind.i64.wrap (y2 - 1)) && decide (IntKind.i64.wrap (y2 - 1) < (↑y4.length : Int)) && decide ((y4.getD (IntKind.i64.wrap (y2 - 1)).toNat []).length = 2) then
                bif fitsRow [CK.sl] (y4.getD (IntKind.i64.wrap (y2 - 1)).toNat []) 1 && decide (2 ≤ (y4.getD (IntKind.i64.wrap (y2 - 1)).toNat []).length) then
                  (slices_Compare_Sstring_string [AV.one (A1.s ((y4.getD (IntKind.i64.wrap (y2 - 1)).toNat []).getD 1 D.h).es), AV.one (A1.s ((y0.getD y2.toNat []).getD 1 D.h).es)] []).bind fun val =>
                    bif fitsCells [R1.int IntKind.i64] val.1 && true then
                      bif decide ((val.1.getD 0 TC.d).int ≥ 0) then inodesWell.P5 y2 y0 y1 y2 true y3 y4 ((y0.getD y2.toNat []).getD 0 D.h).int ((y0.getD y2.toNat []).getD 1 D.h).es
                      else
                        (iwithin
                              [AV.one (A1.v (Value.int IntKind.i64 ((y0.getD y2.toNat []).getD 0 D.h).int)), AV.one (A1.v (Value.int IntKind.i64 1)),
                                AV.one (A1.v (Value.int IntKind.i64 (IntKind.i64.wrap (y3 - 1))))]
                              []).bind
                          fun val =>
                          bif fitsCells [R1.bool] val.1 && true then
                            inodesWell.P5 y2 y0 y1 y2 (!(val.1.getD 0 TC.d).bool) y3 y4 ((y0.getD y2.toNat []).getD 0 D.h).int ((y0.getD y2.toNat []).getD 1 D.h).es
                          else none
                    else none
                else none
              else none
            else
              (iwithin
                    [AV.one (A1.v (Value.int IntKind.i64 ((y0.getD y2.toNat []).getD 0 D.h).int)), AV.one (A1.v (Value.int IntKind.i64 1)),
                      AV.one (A1.v (Value.int IntKind.i64 (IntKind.i64.wrap (y3 - 1))))]
                    []).bind
                fun val =>
                bif fitsCells [R1.bool] val.1 && true then inodesWell.P5 y2 y0 y1 y2 (!(val.1.getD 0 TC.d).bool) y3 y4 ((y0.getD y2.toNat []).getD 0 D.h).int ((y0.getD y2.toNat []).getD 1 D.h).es
                else none
        else none
    else none
  else none
else some (inodesWell.x2 y3 y4) := by
  refine (lpL_eq (Y := Y) (c := lim' Y) (fn := 48) (rid := 2) (b := bodyAt 2 inodesWell.c) (by kernel_rfl) _).trans ?_
  delta inodesWell.L2 inamesOk inodesWell.P5 slices_Compare_Sstring_string iwithin inodesWell.x2 XX
  refine join_use [5, 6] (by kernel_rfl) fun J e1 => ?_
  try simp only [← e1]
  clear e1
  generalize lpL (Y.ctx (lim' Y)) 48 = lp
  generalize lim' Y = call
  kernel_rfl
theorem inodesWell.p5 (y0 : Int) (y1 : List (List D)) (y2 : Int) (y3 : Int) (y4 : Bool) (y5 : Int) (y6 : List (List D)) (y7 : Int) (y8 : List (List D)) :
    inodesWell.P5 y0 y1 y2 y3 y4 y5 y6 y7 y8 =
    bif y4 then some (inodesWell.q2 false y5 y6) else inodesWell.P6 y0 y1 y2 y3 y5 y6 y7 y8 := by
  delta inodesWell.P5 inodesWell.q2 inodesWell.P6 XX
  refine join_at [5, 6] 5 (by kernel_rfl) fun J e1 => ?_
  try simp only [← e1]
  clear e1
  generalize lpL (Y.ctx (lim' Y)) 48 = lp
  generalize lim' Y = call
  kernel_rfl
theorem inodesWell.a2x2 (y0 : Int) (y1 : List (List D)) :
    inodesWell.A2 (inodesWell.x2 y0 y1) =
    (iwithin [AV.one (A1.v (Value.int IntKind.i64 y0)), AV.one (A1.v (Value.int IntKind.i64 1)), AV.one (A1.v (Value.int IntKind.i64 10000))] []).bind fun val =>
  bif fitsCells [R1.bool] val.1 && true then
    bif (val.1.getD 0 TC.d).bool then some { cells := [TC.v (Value.bool (decide ((↑y1.length : Int) ≤ 30)))], objs := [] } else some { cells := [TC.v (Value.bool false)], objs := [] }
  else none := by
  delta inodesWell.A2 inodesWell.x2 iwithin XX
  generalize lpL (Y.ctx (lim' Y)) 48 = lp
  generalize lim' Y = call
  kernel_rfl
theorem inodesWell.a2q2 (y0 : Bool) (y1 : Int) (y2 : List (List D)) :
    inodesWell.A2 (inodesWell.q2 y0 y1 y2) =
    some { cells := [TC.v (Value.bool y0)], objs := [] } := by
  delta inodesWell.A2 inodesWell.q2 XX
  generalize lpL (Y.ctx (lim' Y)) 48 = lp
  generalize lim' Y = call
  kernel_rfl
theorem inodesWell.p6 (y0 : Int) (y1 : List (List D)) (y2 : Int) (y3 : Int) (y4 : Int) (y5 : List (List D)) (y6 : Int) (y7 : List (List D)) :
    inodesWell.P6 y0 y1 y2 y3 y4 y5 y6 y7 =
    bif decide (none.getD 0 ≤ y0) && decide (y0 ≤ (↑y5.length : Int)) && true then
  (inodesWell.L7 y1 y2 y3 (List.drop 0 (List.take y0.toNat y5)) (↑(List.drop 0 (List.take y0.toNat y5)).length : Int) 0 y4 y5 y6 y7).bind inodesWell.A7
else none := by
  delta inodesWell.P6 inodesWell.L7 inodesWell.A7 XX
  refine join_at [5, 6] 6 (by kernel_rfl) fun J e1 => ?_
  have eA := evA_J [5, 6] 7 (by kernel_rfl) e1
  try simp only [eA]
  clear eA
  try simp only [← e1]
  clear e1
  show _ = _
  generalize lpL (Y.ctx (lim' Y)) 48 = lp
  generalize lim' Y = call
  kernel_rfl
theorem inodesWell.s7 (y0 : List (List D)) (y1 : Int) (y2 : Int) (y3 : List (List D)) (y4 : Int) (y5 : Int) (y6 : Int) (y7 : List (List D)) (y8 : Int) (y9 : List (List D)) :
    inodesWell.L7 y0 y1 y2 y3 y4 y5 y6 y7 y8 y9 =
    bif decide (y5 < y4) then
  bif decide (0 ≤ y5) && decide (y5 < (↑y3.length : Int)) && decide ((y3.getD y5.toNat []).length = 2) then
    bif fitsRow [CK.int IntKind.i64, CK.sl] (y3.getD y5.toNat []) 0 && decide (2 ≤ (y3.getD y5.toNat []).length) then
      bif ((y3.getD y5.toNat []).getD 0 D.h).int == y8 then some (inodesWell.q7 false y0 y1 y2 y6 y7) else inodesWell.L7 y0 y1 y2 y3 y4 (IntKind.i64.wrap (y5 + 1)) y6 y7 y8 y9
    else none
  else none
else some (inodesWell.x7 y0 y1 y2 y6 y7) := by
  refine (lpL_eq (Y := Y) (c := lim' Y) (fn := 48) (rid := 7) (b := bodyAt 7 (bodyAt 2 inodesWell.c)) (by kernel_rfl) _).trans ?_
  delta inodesWell.L7 inodesWell.q7 inodesWell.x7 XX
  generalize lpL (Y.ctx (lim' Y)) 48 = lp
  generalize lim' Y = call
  kernel_rfl
theorem inodesWell.a7q7 (y0 : Bool) (y1 : List (List D)) (y2 : Int) (y3 : Int) (y4 : Int) (y5 : List (List D)) :
    inodesWell.A7 (inodesWell.q7 y0 y1 y2 y3 y4 y5) =
    some (inodesWell.q2 y0 y4 y5) := by
  delta inodesWell.A7 inodesWell.q7 inodesWell.q2 XX
  refine join_behind [5, 6] 7 (by kernel_rfl) fun J e1 => ?_
  have eA := evA_J [5, 6] 7 (by kernel_rfl) e1
  try simp only [eA]
  clear eA
  try simp only [← e1]
  clear e1
  show _ = _
  generalize lpL (Y.ctx (lim' Y)) 48 = lp
  generalize lim' Y = call
  kernel_rfl
theorem inodesWell.a7x7 (y0 : List (List D)) (y1 : Int) (y2 : Int) (y3 : Int) (y4 : List (List D)) :
    inodesWell.A7 (inodesWell.x7 y0 y1 y2 y3 y4) =
    inodesWell.L2 y0 y1 (IntKind.i64.wrap (y2 + 1)) y3 y4 := by
  delta inodesWell.A7 inodesWell.x7 inodesWell.L2 XX
  refine join_behind [5, 6] 7 (by kernel_rfl) fun J e1 => ?_
  have eA := evA_J [5, 6] 7 (by kernel_rfl) e1
  try simp only [eA]
  clear eA
  try simp only [← e1]
  clear e1
  show _ = _
  generalize lpL (Y.ctx (lim' Y)) 48 = lp
  generalize lim' Y = call
  kernel_rfl


theorem ipathText.e (a0 : List (List D)) :
    ipathText [AV.one (A1.s a0)] [] =
    bif (↑a0.length : Int) == 0 then some { cells := [TC.v (Value.string (ByteArray.mk #[47]))], objs := [] }
else
  (strings_Join [AV.one (A1.s a0), AV.one (A1.v (Value.string (ByteArray.mk #[47])))] []).bind fun val =>
    bif fitsCells [R1.str] val.1 && true then
      bif decide (1 + (val.1.getD 0 TC.d).str.size ≤ 70368744177664) then some { cells := [TC.v (Value.string ((ByteArray.mk #[47]) ++ (val.1.getD 0 TC.d).str))], objs := [] } else none
    else none := by
  refine (ipathText.run _ _ (by kernel_rfl)).trans ?_
  delta ipathText strings_Join XX
  generalize lpL (Y.ctx (lim' Y)) 50 = lp
  generalize lim' Y = call
  kernel_rfl


theorem weqNodeOf.e (a0 : Int) (a1 : List (List D)) (a2 : Int) (a3 : List (List D)) :
    weqNodeOf [AV.g [A1.v (Value.int IntKind.i64 a0), A1.s a1], AV.g [A1.v (Value.int IntKind.i64 a2), A1.s a3]] [] =
    bif a0 != a2 then some { cells := [TC.v (Value.bool false)], objs := [] }
else
  (weqStringS [AV.one (A1.s a1), AV.one (A1.s a3)] []).bind fun val =>
    bif fitsCells [R1.bool] val.1 && true then bif !(val.1.getD 0 TC.d).bool then some { cells := [TC.v (Value.bool false)], objs := [] } else some { cells := [TC.v (Value.bool true)], objs := [] }
    else none := by
  refine (weqNodeOf.run _ _ (by kernel_rfl)).trans ?_
  delta weqNodeOf weqStringS XX
  generalize lpL (Y.ctx (lim' Y)) 51 = lp
  generalize lim' Y = call
  kernel_rfl


noncomputable def wmarkText.L4 (y0 : Int) (y1 : ByteArray) : Option (Ex × St) := lpL XX 59 (bodyAt 4 wmarkText.c) (mkG 0 20 [(0, AV.one (A1.v (Value.int IntKind.i64 y0))), (3, AV.one (A1.v (Value.string y1)))] [] GL)
noncomputable def wmarkText.A4 : Ex × St → Option Res := fun r => evA XX 59 (lpL XX 59) 4 wmarkText.c r.fst r.snd (outE XX 59 Tryd.f59)
noncomputable def wmarkText.x4 (y0 : ByteArray) : Ex × St := (Ex.exit 0, mkG 0 20 [(3, AV.one (A1.v (Value.string y0)))] [] GL)
theorem wmarkText.e (a0 : Int) :
    wmarkText [AV.one (A1.v (Value.int IntKind.i64 a0))] [] =
    bif decide (a0 ≤ 0) then some { cells := [TC.v (Value.string (ByteArray.mk #[109, 48]))], objs := [] } else (wmarkText.L4 a0 (ByteArray.mk #[])).bind wmarkText.A4 := by
  refine (wmarkText.run _ _ (by kernel_rfl)).trans ?_
  delta wmarkText wmarkText.L4 wmarkText.A4 XX
  generalize lpL (Y.ctx (lim' Y)) 59 = lp
  generalize lim' Y = call
  kernel_rfl
theorem wmarkText.s4 (y0 : Int) (y1 : ByteArray) :
    wmarkText.L4 y0 y1 =
    bif decide (y0 > 0) then
  bif decide (1 + y1.size ≤ 70368744177664) then wmarkText.L4 (IntKind.i64.wrap (y0.tdiv 10)) (strOf [[D.v (Value.int IntKind.u8 (IntKind.u8.wrap (IntKind.i64.wrap (48 + y0.tmod 10))))]] ++ y1)
  else none
else some (wmarkText.x4 y1) := by
  refine (lpL_eq (Y := Y) (c := lim' Y) (fn := 59) (rid := 4) (b := bodyAt 4 wmarkText.c) (by kernel_rfl) _).trans ?_
  delta wmarkText.L4 wmarkText.x4 XX
  generalize lpL (Y.ctx (lim' Y)) 59 = lp
  generalize lim' Y = call
  kernel_rfl
theorem wmarkText.a4x4 (y0 : ByteArray) :
    wmarkText.A4 (wmarkText.x4 y0) =
    bif decide (1 + y0.size ≤ 70368744177664) then some { cells := [TC.v (Value.string ((ByteArray.mk #[109]) ++ y0))], objs := [] } else none := by
  delta wmarkText.A4 wmarkText.x4 XX
  generalize lpL (Y.ctx (lim' Y)) 59 = lp
  generalize lim' Y = call
  kernel_rfl


noncomputable def sl1NameOk.L2 (y0 : ByteArray) (y1 : Int) : Option (Ex × St) := lpL XX 60 (bodyAt 2 sl1NameOk.c) (mkG 0 36 [(0, AV.one (A1.v (Value.string y0))), (3, AV.one (A1.v (Value.int IntKind.i64 y1)))] [] GL)
noncomputable def sl1NameOk.A2 : Ex × St → Option Res := fun r => evA XX 60 (lpL XX 60) 2 sl1NameOk.c r.fst r.snd (outE XX 60 Tryd.f60)
noncomputable def sl1NameOk.P5 (y0 : ByteArray) (y1 : Int) (y2 : Bool) : Option (Ex × St) := evB XX 60 (lpL XX 60) 5 (bodyAt 2 sl1NameOk.c) (mkG 0 36 [(0, AV.one (A1.v (Value.string y0))), (3, AV.one (A1.v (Value.int IntKind.i64 y1))), (32, AV.one (A1.v (Value.bool y2)))] [] GL)
  (backL (lpL XX 60) (bodyAt 2 sl1NameOk.c) (XX.live 60 2))
noncomputable def sl1NameOk.x2 (y0 : ByteArray) : Ex × St := (Ex.exit 0, mkG 0 36 [(0, AV.one (A1.v (Value.string y0)))] [] GL)
noncomputable def sl1NameOk.q2 (y0 : ByteArray) (y1 : Bool) : Ex × St := (Ex.ret, mkG 0 36 [(0, AV.one (A1.v (Value.string y0))), (2, AV.one (A1.v (Value.bool y1)))] [] GL)
theorem sl1NameOk.e (a0 : ByteArray) :
    sl1NameOk [AV.one (A1.v (Value.string a0))] [] =
    (sl1NameOk.L2 a0 0).bind sl1NameOk.A2 := by
  refine (sl1NameOk.run _ _ (by kernel_rfl)).trans ?_
  delta sl1NameOk sl1NameOk.L2 sl1NameOk.A2 XX
  generalize lpL (Y.ctx (lim' Y)) 60 = lp
  generalize lim' Y = call
  kernel_rfl
theorem sl1NameOk.s2 (y0 : ByteArray) (y1 : Int) :
    sl1NameOk.L2 y0 y1 =
    bif decide (y1 < (↑y0.size : Int)) then
  bif decide (0 ≤ y1) && decide (y1 < (↑y0.size : Int)) then
    bif decide (byteAt y0 y1.toNat ≥ 97) then
      bif decide (0 ≤ y1) && decide (y1 < (↑y0.size : Int)) then
        bif decide (byteAt y0 y1.toNat ≤ 122) then sl1NameOk.P5 y0 y1 false
        else
          bif decide (0 ≤ y1) && decide (y1 < (↑y0.size : Int)) then
            bif decide (byteAt y0 y1.toNat ≥ 48) then bif decide (0 ≤ y1) && decide (y1 < (↑y0.size : Int)) then sl1NameOk.P5 y0 y1 !decide (byteAt y0 y1.toNat ≤ 57) else none
            else sl1NameOk.P5 y0 y1 true
          else none
      else none
    else
      bif decide (0 ≤ y1) && decide (y1 < (↑y0.size : Int)) then
        bif decide (byteAt y0 y1.toNat ≥ 48) then bif decide (0 ≤ y1) && decide (y1 < (↑y0.size : Int)) then sl1NameOk.P5 y0 y1 !decide (byteAt y0 y1.toNat ≤ 57) else none else sl1NameOk.P5 y0 y1 true
      else none
  else none
else some (sl1NameOk.x2 y0) := by
  refine (lpL_eq (Y := Y) (c := lim' Y) (fn := 60) (rid := 2) (b := bodyAt 2 sl1NameOk.c) (by kernel_rfl) _).trans ?_
  delta sl1NameOk.L2 sl1NameOk.P5 sl1NameOk.x2 XX
  refine join_use [5] (by kernel_rfl) fun J e1 => ?_
  try simp only [← e1]
  clear e1
  generalize lpL (Y.ctx (lim' Y)) 60 = lp
  generalize lim' Y = call
  kernel_rfl
theorem sl1NameOk.p5 (y0 : ByteArray) (y1 : Int) (y2 : Bool) :
    sl1NameOk.P5 y0 y1 y2 =
    bif y2 then some (sl1NameOk.q2 y0 false) else sl1NameOk.L2 y0 (IntKind.i64.wrap (y1 + 1)) := by
  delta sl1NameOk.P5 sl1NameOk.q2 sl1NameOk.L2 XX
  refine join_at [5] 5 (by kernel_rfl) fun J e1 => ?_
  try simp only [← e1]
  clear e1
  generalize lpL (Y.ctx (lim' Y)) 60 = lp
  generalize lim' Y = call
  kernel_rfl
theorem sl1NameOk.a2x2 (y0 : ByteArray) :
    sl1NameOk.A2 (sl1NameOk.x2 y0) =
    (sl1In [AV.one (A1.v (Value.int IntKind.i64 (↑y0.size : Int))), AV.one (A1.v (Value.int IntKind.i64 1)), AV.one (A1.v (Value.int IntKind.i64 5))] []).bind fun val =>
  bif fitsCells [R1.bool] val.1 && true then some { cells := [TC.v (Value.bool (val.1.getD 0 TC.d).bool)], objs := [] } else none := by
  delta sl1NameOk.A2 sl1NameOk.x2 sl1In XX
  generalize lpL (Y.ctx (lim' Y)) 60 = lp
  generalize lim' Y = call
  kernel_rfl
theorem sl1NameOk.a2q2 (y0 : ByteArray) (y1 : Bool) :
    sl1NameOk.A2 (sl1NameOk.q2 y0 y1) =
    some { cells := [TC.v (Value.bool y1)], objs := [] } := by
  delta sl1NameOk.A2 sl1NameOk.q2 XX
  generalize lpL (Y.ctx (lim' Y)) 60 = lp
  generalize lim' Y = call
  kernel_rfl


noncomputable def inamesOk.L2 (y0 : List (List D)) (y1 : Int) (y2 : List (List D)) (y3 : Int) (y4 : Int) : Option (Ex × St) := lpL XX 65 (bodyAt 2 inamesOk.c)
  (mkG 0 21 [(0, AV.one (A1.s y0)), (1, AV.one (A1.v (Value.int IntKind.i64 y1))), (7, AV.one (A1.s y2)), (8, AV.one (A1.v (Value.int IntKind.i64 y3))), (9, AV.one (A1.v (Value.int IntKind.i64 y4)))]
    [] GL)
noncomputable def inamesOk.A2 : Ex × St → Option Res := fun r => evA XX 65 (lpL XX 65) 2 inamesOk.c r.fst r.snd (outE XX 65 Tryd.f65)
noncomputable def inamesOk.q2 (y0 : List (List D)) (y1 : Int) (y2 : Bool) : Ex × St := (Ex.ret, mkG 0 21 [(0, AV.one (A1.s y0)), (1, AV.one (A1.v (Value.int IntKind.i64 y1))), (4, AV.one (A1.v (Value.bool y2)))] [] GL)
noncomputable def inamesOk.x2 (y0 : List (List D)) (y1 : Int) : Ex × St := (Ex.exit 0, mkG 0 21 [(0, AV.one (A1.s y0)), (1, AV.one (A1.v (Value.int IntKind.i64 y1)))] [] GL)
theorem inamesOk.e (a0 : List (List D)) (a1 : Int) :
    inamesOk [AV.one (A1.s a0), AV.one (A1.v (Value.int IntKind.i64 a1))] [] =
    (inamesOk.L2 a0 a1 a0 (↑a0.length : Int) 0).bind inamesOk.A2 := by
  refine (inamesOk.run _ _ (by kernel_rfl)).trans ?_
  delta inamesOk inamesOk.L2 inamesOk.A2 XX
  generalize lpL (Y.ctx (lim' Y)) 65 = lp
  generalize lim' Y = call
  kernel_rfl
theorem inamesOk.s2 (y0 : List (List D)) (y1 : Int) (y2 : List (List D)) (y3 : Int) (y4 : Int) :
    inamesOk.L2 y0 y1 y2 y3 y4 =
    bif decide (y4 < y3) then
  bif decide (0 ≤ y4) && decide (y4 < (↑y2.length : Int)) && decide ((y2.getD y4.toNat []).length = 1) then
    bif fitsRow [CK.str] (y2.getD y4.toNat []) 0 && decide (1 ≤ (y2.getD y4.toNat []).length) then
      (inameOk [AV.one (A1.v (Value.string ((y2.getD y4.toNat []).getD 0 D.h).str))] []).bind fun val =>
        bif fitsCells [R1.bool] val.1 && true then bif !(val.1.getD 0 TC.d).bool then some (inamesOk.q2 y0 y1 false) else inamesOk.L2 y0 y1 y2 y3 (IntKind.i64.wrap (y4 + 1)) else none
    else none
  else none
else some (inamesOk.x2 y0 y1) := by
  refine (lpL_eq (Y := Y) (c := lim' Y) (fn := 65) (rid := 2) (b := bodyAt 2 inamesOk.c) (by kernel_rfl) _).trans ?_
  delta inamesOk.L2 inameOk inamesOk.q2 inamesOk.x2 XX
  generalize lpL (Y.ctx (lim' Y)) 65 = lp
  generalize lim' Y = call
  kernel_rfl
theorem inamesOk.a2q2 (y0 : List (List D)) (y1 : Int) (y2 : Bool) :
    inamesOk.A2 (inamesOk.q2 y0 y1 y2) =
    some { cells := [TC.v (Value.bool y2)], objs := [] } := by
  delta inamesOk.A2 inamesOk.q2 XX
  generalize lpL (Y.ctx (lim' Y)) 65 = lp
  generalize lim' Y = call
  kernel_rfl
theorem inamesOk.a2x2 (y0 : List (List D)) (y1 : Int) :
    inamesOk.A2 (inamesOk.x2 y0 y1) =
    (iwithin [AV.one (A1.v (Value.int IntKind.i64 (↑y0.length : Int))), AV.one (A1.v (Value.int IntKind.i64 y1)), AV.one (A1.v (Value.int IntKind.i64 4))] []).bind fun val =>
  bif fitsCells [R1.bool] val.1 && true then some { cells := [TC.v (Value.bool (val.1.getD 0 TC.d).bool)], objs := [] } else none := by
  delta inamesOk.A2 inamesOk.x2 iwithin XX
  generalize lpL (Y.ctx (lim' Y)) 65 = lp
  generalize lim' Y = call
  kernel_rfl


noncomputable def slices_Compare_Sstring_string.L2 (y0 : List (List D)) (y1 : List (List D)) (y2 : List (List D)) (y3 : Int) (y4 : Int) : Option (Ex × St) := lpL XX 66 (bodyAt 2 slices_Compare_Sstring_string.c)
  (mkG 0 36 [(0, AV.one (A1.s y0)), (1, AV.one (A1.s y1)), (9, AV.one (A1.s y2)), (10, AV.one (A1.v (Value.int IntKind.i64 y3))), (11, AV.one (A1.v (Value.int IntKind.i64 y4)))] [] GL)
noncomputable def slices_Compare_Sstring_string.A2 : Ex × St → Option Res := fun r => evA XX 66 (lpL XX 66) 2 slices_Compare_Sstring_string.c r.fst r.snd (outE XX 66 Tryd.f66)
noncomputable def slices_Compare_Sstring_string.q2 (y0 : List (List D)) (y1 : List (List D)) (y2 : Int) : Ex × St := (Ex.ret, mkG 0 36 [(0, AV.one (A1.s y0)), (1, AV.one (A1.s y1)), (4, AV.one (A1.v (Value.int IntKind.i64 y2)))] [] GL)
noncomputable def slices_Compare_Sstring_string.x2 (y0 : List (List D)) (y1 : List (List D)) : Ex × St := (Ex.exit 0, mkG 0 36 [(0, AV.one (A1.s y0)), (1, AV.one (A1.s y1))] [] GL)
theorem slices_Compare_Sstring_string.e (a0 : List (List D)) (a1 : List (List D)) :
    slices_Compare_Sstring_string [AV.one (A1.s a0), AV.one (A1.s a1)] [] =
    (slices_Compare_Sstring_string.L2 a0 a1 a0 (↑a0.length : Int) 0).bind slices_Compare_Sstring_string.A2 := by
  refine (slices_Compare_Sstring_string.run _ _ (by kernel_rfl)).trans ?_
  delta slices_Compare_Sstring_string slices_Compare_Sstring_string.L2 slices_Compare_Sstring_string.A2 XX
  generalize lpL (Y.ctx (lim' Y)) 66 = lp
  generalize lim' Y = call
  kernel_rfl
theorem slices_Compare_Sstring_string.s2 (y0 : List (List D)) (y1 : List (List D)) (y2 : List (List D)) (y3 : Int) (y4 : Int) :
    slices_Compare_Sstring_string.L2 y0 y1 y2 y3 y4 =
    bif decide (y4 < y3) then
  bif decide (0 ≤ y4) && decide (y4 < (↑y2.length : Int)) && decide ((y2.getD y4.toNat []).length = 1) then
    bif fitsRow [CK.str] (y2.getD y4.toNat []) 0 && decide (1 ≤ (y2.getD y4.toNat []).length) then
      bif decide (y4 ≥ (↑y1.length : Int)) then some (slices_Compare_Sstring_string.q2 y0 y1 1)
      else
        bif decide (0 ≤ y4) && decide (y4 < (↑y1.length : Int)) && decide ((y1.getD y4.toNat []).length = 1) then
          bif fitsRow [CK.str] (y1.getD y4.toNat []) 0 && decide (1 ≤ (y1.getD y4.toNat []).length) then
            (cmp_Compare_string [AV.one (A1.v (Value.string ((y2.getD y4.toNat []).getD 0 D.h).str)), AV.one (A1.v (Value.string ((y1.getD y4.toNat []).getD 0 D.h).str))] []).bind fun val =>
              bif fitsCells [R1.int IntKind.i64] val.1 && true then
                bif (val.1.getD 0 TC.d).int != 0 then some (slices_Compare_Sstring_string.q2 y0 y1 (val.1.getD 0 TC.d).int)
                else slices_Compare_Sstring_string.L2 y0 y1 y2 y3 (IntKind.i64.wrap (y4 + 1))
              else none
          else none
        else none
    else none
  else none
else some (slices_Compare_Sstring_string.x2 y0 y1) := by
  refine (lpL_eq (Y := Y) (c := lim' Y) (fn := 66) (rid := 2) (b := bodyAt 2 slices_Compare_Sstring_string.c) (by kernel_rfl) _).trans ?_
  delta slices_Compare_Sstring_string.L2 slices_Compare_Sstring_string.q2 cmp_Compare_string slices_Compare_Sstring_string.x2 XX
  generalize lpL (Y.ctx (lim' Y)) 66 = lp
  generalize lim' Y = call
  kernel_rfl
theorem slices_Compare_Sstring_string.a2q2 (y0 : List (List D)) (y1 : List (List D)) (y2 : Int) :
    slices_Compare_Sstring_string.A2 (slices_Compare_Sstring_string.q2 y0 y1 y2) =
    some { cells := [TC.v (Value.int IntKind.i64 y2)], objs := [] } := by
  delta slices_Compare_Sstring_string.A2 slices_Compare_Sstring_string.q2 XX
  generalize lpL (Y.ctx (lim' Y)) 66 = lp
  generalize lim' Y = call
  kernel_rfl
theorem slices_Compare_Sstring_string.a2x2 (y0 : List (List D)) (y1 : List (List D)) :
    slices_Compare_Sstring_string.A2 (slices_Compare_Sstring_string.x2 y0 y1) =
    bif decide ((↑y0.length : Int) < (↑y1.length : Int)) then some { cells := [TC.v (Value.int IntKind.i64 (-1))], objs := [] } else some { cells := [TC.v (Value.int IntKind.i64 0)], objs := [] } := by
  delta slices_Compare_Sstring_string.A2 slices_Compare_Sstring_string.x2 XX
  generalize lpL (Y.ctx (lim' Y)) 66 = lp
  generalize lim' Y = call
  kernel_rfl


theorem iwithin.e (a0 : Int) (a1 : Int) (a2 : Int) :
    iwithin [AV.one (A1.v (Value.int IntKind.i64 a0)), AV.one (A1.v (Value.int IntKind.i64 a1)), AV.one (A1.v (Value.int IntKind.i64 a2))] [] =
    bif decide (a0 ≥ a1) then some { cells := [TC.v (Value.bool (decide (a0 ≤ a2)))], objs := [] } else some { cells := [TC.v (Value.bool false)], objs := [] } := by
  refine (iwithin.run _ _ (by kernel_rfl)).trans ?_
  delta iwithin XX
  generalize lpL (Y.ctx (lim' Y)) 67 = lp
  generalize lim' Y = call
  kernel_rfl


noncomputable def inameOk.L2 (y0 : ByteArray) (y1 : Int) (y2 : Int) : Option (Ex × St) := lpL XX 86 (bodyAt 2 inameOk.c) (mkG 0 35 [(0, AV.one (A1.v (Value.string y0))), (5, AV.one (A1.v (Value.int IntKind.i64 y1))), (6, AV.one (A1.v (Value.int IntKind.i64 y2)))] [] GL)
noncomputable def inameOk.A2 : Ex × St → Option Res := fun r => evA XX 86 (lpL XX 86) 2 inameOk.c r.fst r.snd (outE XX 86 Tryd.f86)
noncomputable def inameOk.P5 (y0 : ByteArray) (y1 : Int) (y2 : Int) (y3 : Bool) : Option (Ex × St) := evB XX 86 (lpL XX 86) 5 (bodyAt 2 inameOk.c)
  (mkG 0 35 [(0, AV.one (A1.v (Value.string y0))), (5, AV.one (A1.v (Value.int IntKind.i64 y1))), (6, AV.one (A1.v (Value.int IntKind.i64 y2))), (30, AV.one (A1.v (Value.bool y3)))] [] GL)
  (backL (lpL XX 86) (bodyAt 2 inameOk.c) (XX.live 86 2))
noncomputable def inameOk.x2 (y0 : ByteArray) : Ex × St := (Ex.exit 0, mkG 0 35 [(0, AV.one (A1.v (Value.string y0)))] [] GL)
noncomputable def inameOk.q2 (y0 : ByteArray) (y1 : Bool) : Ex × St := (Ex.ret, mkG 0 35 [(0, AV.one (A1.v (Value.string y0))), (2, AV.one (A1.v (Value.bool y1)))] [] GL)
theorem inameOk.e (a0 : ByteArray) :
    inameOk [AV.one (A1.v (Value.string a0))] [] =
    (inameOk.L2 a0 (↑a0.size : Int) 0).bind inameOk.A2 := by
  refine (inameOk.run _ _ (by kernel_rfl)).trans ?_
  delta inameOk inameOk.L2 inameOk.A2 XX
  generalize lpL (Y.ctx (lim' Y)) 86 = lp
  generalize lim' Y = call
  kernel_rfl
theorem inameOk.s2 (y0 : ByteArray) (y1 : Int) (y2 : Int) :
    inameOk.L2 y0 y1 y2 =
    bif decide (y2 < y1) then
  bif decide (0 ≤ y2) && decide (y2 < (↑y0.size : Int)) then
    bif decide (byteAt y0 y2.toNat < 97) then
      bif decide (0 ≤ y2) && decide (y2 < (↑y0.size : Int)) then
        bif decide (byteAt y0 y2.toNat < 48) then inameOk.P5 y0 y1 y2 true
        else bif decide (0 ≤ y2) && decide (y2 < (↑y0.size : Int)) then inameOk.P5 y0 y1 y2 (decide (byteAt y0 y2.toNat > 57)) else none
      else none
    else
      bif decide (0 ≤ y2) && decide (y2 < (↑y0.size : Int)) then
        bif decide (byteAt y0 y2.toNat > 122) then
          bif decide (0 ≤ y2) && decide (y2 < (↑y0.size : Int)) then
            bif decide (byteAt y0 y2.toNat < 48) then inameOk.P5 y0 y1 y2 true
            else bif decide (0 ≤ y2) && decide (y2 < (↑y0.size : Int)) then inameOk.P5 y0 y1 y2 (decide (byteAt y0 y2.toNat > 57)) else none
          else none
        else inameOk.P5 y0 y1 y2 false
      else none
  else none
else some (inameOk.x2 y0) := by
  refine (lpL_eq (Y := Y) (c := lim' Y) (fn := 86) (rid := 2) (b := bodyAt 2 inameOk.c) (by kernel_rfl) _).trans ?_
  delta inameOk.L2 inameOk.P5 inameOk.x2 XX
  refine join_use [5] (by kernel_rfl) fun J e1 => ?_
  try simp only [← e1]
  clear e1
  generalize lpL (Y.ctx (lim' Y)) 86 = lp
  generalize lim' Y = call
  kernel_rfl
theorem inameOk.p5 (y0 : ByteArray) (y1 : Int) (y2 : Int) (y3 : Bool) :
    inameOk.P5 y0 y1 y2 y3 =
    bif y3 then some (inameOk.q2 y0 false) else inameOk.L2 y0 y1 (IntKind.i64.wrap (y2 + 1)) := by
  delta inameOk.P5 inameOk.q2 inameOk.L2 XX
  refine join_at [5] 5 (by kernel_rfl) fun J e1 => ?_
  try simp only [← e1]
  clear e1
  generalize lpL (Y.ctx (lim' Y)) 86 = lp
  generalize lim' Y = call
  kernel_rfl
theorem inameOk.a2x2 (y0 : ByteArray) :
    inameOk.A2 (inameOk.x2 y0) =
    (iwithin [AV.one (A1.v (Value.int IntKind.i64 (↑y0.size : Int))), AV.one (A1.v (Value.int IntKind.i64 1)), AV.one (A1.v (Value.int IntKind.i64 5))] []).bind fun val =>
  bif fitsCells [R1.bool] val.1 && true then some { cells := [TC.v (Value.bool (val.1.getD 0 TC.d).bool)], objs := [] } else none := by
  delta inameOk.A2 inameOk.x2 iwithin XX
  generalize lpL (Y.ctx (lim' Y)) 86 = lp
  generalize lim' Y = call
  kernel_rfl
theorem inameOk.a2q2 (y0 : ByteArray) (y1 : Bool) :
    inameOk.A2 (inameOk.q2 y0 y1) =
    some { cells := [TC.v (Value.bool y1)], objs := [] } := by
  delta inameOk.A2 inameOk.q2 XX
  generalize lpL (Y.ctx (lim' Y)) 86 = lp
  generalize lim' Y = call
  kernel_rfl


theorem cmp_Compare_string.e (a0 : ByteArray) (a1 : ByteArray) :
    cmp_Compare_string [AV.one (A1.v (Value.string a0)), AV.one (A1.v (Value.string a1))] [] =
    (cmp_isNaN_string [AV.one (A1.v (Value.string a0))] []).bind fun val =>
  bif fitsCells [R1.bool] val.1 && true then
    (cmp_isNaN_string [AV.one (A1.v (Value.string a1))] []).bind fun val_1 =>
      bif fitsCells [R1.bool] val_1.1 && true then
        bif (val.1.getD 0 TC.d).bool then
          bif (val_1.1.getD 0 TC.d).bool then some { cells := [TC.v (Value.int IntKind.i64 0)], objs := [] } else some { cells := [TC.v (Value.int IntKind.i64 (-1))], objs := [] }
        else
          bif (val_1.1.getD 0 TC.d).bool then some { cells := [TC.v (Value.int IntKind.i64 1)], objs := [] }
          else
            bif Op.bytesLess a0.toList a1.toList then some { cells := [TC.v (Value.int IntKind.i64 (-1))], objs := [] }
            else
              bif !(Op.bytesLess a0.toList a1.toList || a0.toList == a1.toList) then some { cells := [TC.v (Value.int IntKind.i64 1)], objs := [] }
              else some { cells := [TC.v (Value.int IntKind.i64 0)], objs := [] }
      else none
  else none := by
  refine (cmp_Compare_string.run _ _ (by kernel_rfl)).trans ?_
  delta cmp_Compare_string cmp_isNaN_string XX
  generalize lpL (Y.ctx (lim' Y)) 87 = lp
  generalize lim' Y = call
  kernel_rfl


theorem cmp_isNaN_string.e (a0 : ByteArray) :
    cmp_isNaN_string [AV.one (A1.v (Value.string a0))] [] =
    some { cells := [TC.v (Value.bool !a0.toList == a0.toList)], objs := [] } := by
  refine (cmp_isNaN_string.run _ _ (by kernel_rfl)).trans ?_
  delta cmp_isNaN_string XX
  generalize lpL (Y.ctx (lim' Y)) 100 = lp
  generalize lim' Y = call
  kernel_rfl


end Go.PVx
