/- A part of the proof: PvHRes. -/
import Derived.Test.YtgpfhocdahjnmaaDoorTab
import Derived.KernelRfl
set_option linter.unusedSimpArgs false
set_option linter.unusedVariables false
/- PRINTED by a tool of this work (wip/pv/tool/gen2.py): what each function's code comes to. -/
namespace Go.PVx
open Go.PV Go.Proofs
set_option maxRecDepth 100000
set_option linter.unusedVariables false
noncomputable def wFnExactCallParse.P6 (y0 : ByteArray) (y1 : Bool) (y2 : Bool) (y3 : Int) (y4 : List (List D)) (y5 : List (List D)) (y6 : Int) (y7 : ByteArray) (y8 : Int) (y9 : List (List D)) (y10 : List (List D)) (y11 : Int) (y12 : ByteArray) : Option Res := evB XX 4 (lpL XX 4) 6 wFnExactCallParse.c
  (mkG 0 66 [(0, AV.one (A1.v (Value.string y0))), (3, AV.one (A1.p true 3 [] 0)), (4, AV.one (A1.v (Value.bool y1))), (5, AV.one (A1.p true 5 [] 0)), (32, AV.one (A1.v (Value.bool y2)))]
    [(3,
        some
          { kind := Kind.box, row := [D.v (Value.int IntKind.i64 y3), D.s y4, D.s y5, D.v (Value.int IntKind.i64 y6), D.v (Value.string y7)], fl := [Own.deep, Own.sh, Own.sh, Own.deep, Own.deep] }),
      (5,
        some
          { kind := Kind.box, row := [D.v (Value.int IntKind.i64 y8), D.s y9, D.s y10, D.v (Value.int IntKind.i64 y11), D.v (Value.string y12)],
            fl := [Own.deep, Own.deep, Own.deep, Own.deep, Own.deep] })]
    GL)
  (outE XX 4 Tryd.f4)
noncomputable def wFnExactCallParse.P7 (y0 : ByteArray) (y1 : Bool) (y2 : Int) (y3 : List (List D)) (y4 : List (List D)) (y5 : Int) (y6 : ByteArray) (y7 : Int) (y8 : List (List D)) (y9 : List (List D)) (y10 : Int) (y11 : ByteArray) : Option Res := evB XX 4 (lpL XX 4) 7 wFnExactCallParse.c
  (mkG 0 66 [(0, AV.one (A1.v (Value.string y0))), (3, AV.one (A1.p true 3 [] 0)), (4, AV.one (A1.v (Value.bool y1))), (5, AV.one (A1.p true 5 [] 0))]
    [(3,
        some
          { kind := Kind.box, row := [D.v (Value.int IntKind.i64 y2), D.s y3, D.s y4, D.v (Value.int IntKind.i64 y5), D.v (Value.string y6)], fl := [Own.deep, Own.sh, Own.sh, Own.deep, Own.deep] }),
      (5,
        some
          { kind := Kind.box, row := [D.v (Value.int IntKind.i64 y7), D.s y8, D.s y9, D.v (Value.int IntKind.i64 y10), D.v (Value.string y11)],
            fl := [Own.deep, Own.deep, Own.deep, Own.deep, Own.deep] })]
    GL)
  (outE XX 4 Tryd.f4)
noncomputable def wFnExactCallParse.P16 (y0 : Bool) (y1 : Int) (y2 : Bool) (y3 : Int) (y4 : List (List D)) (y5 : List (List D)) (y6 : Int) (y7 : ByteArray) (y8 : Int) (y9 : List (List D)) (y10 : List (List D)) (y11 : Int) (y12 : ByteArray) (y13 : Int) (y14 : List (List D)) (y15 : List (List D)) (y16 : Int) (y17 : ByteArray) : Option Res := evB XX 4 (lpL XX 4) 16 wFnExactCallParse.c
  (mkG 0 66
    [(3, AV.one (A1.p true 3 [] 0)), (4, AV.one (A1.v (Value.bool y0))), (5, AV.one (A1.p true 5 [] 0)), (7, AV.one (A1.v (Value.int IntKind.i64 y1))), (9, AV.one (A1.p true 9 [] 0)),
      (10, AV.one (A1.v (Value.bool y2)))]
    [(3,
        some
          { kind := Kind.box, row := [D.v (Value.int IntKind.i64 y3), D.s y4, D.s y5, D.v (Value.int IntKind.i64 y6), D.v (Value.string y7)], fl := [Own.deep, Own.sh, Own.sh, Own.deep, Own.deep] }),
      (5,
        some
          { kind := Kind.box, row := [D.v (Value.int IntKind.i64 y8), D.s y9, D.s y10, D.v (Value.int IntKind.i64 y11), D.v (Value.string y12)],
            fl := [Own.deep, Own.deep, Own.deep, Own.deep, Own.deep] }),
      (9,
        some
          { kind := Kind.box, row := [D.v (Value.int IntKind.i64 y13), D.s y14, D.s y15, D.v (Value.int IntKind.i64 y16), D.v (Value.string y17)],
            fl := [Own.deep, Own.deep, Own.deep, Own.deep, Own.deep] })]
    GL)
  (outE XX 4 Tryd.f4)
noncomputable def wFnExactCallParse.P17 (y0 : Int) (y1 : Bool) (y2 : Int) (y3 : List (List D)) (y4 : List (List D)) (y5 : Int) (y6 : ByteArray) : Option Res := evB XX 4 (lpL XX 4) 17 wFnExactCallParse.c
  (mkG 0 66 [(5, AV.one (A1.p true 5 [] 0)), (7, AV.one (A1.v (Value.int IntKind.i64 y0))), (57, AV.one (A1.v (Value.bool y1)))]
    [(5,
        some
          { kind := Kind.box, row := [D.v (Value.int IntKind.i64 y2), D.s y3, D.s y4, D.v (Value.int IntKind.i64 y5), D.v (Value.string y6)],
            fl := [Own.deep, Own.deep, Own.deep, Own.deep, Own.deep] })]
    GL)
  (outE XX 4 Tryd.f4)
noncomputable def wFnExactCallParse.P18 (y0 : Int) (y1 : Int) (y2 : List (List D)) (y3 : List (List D)) (y4 : Int) (y5 : ByteArray) : Option Res := evB XX 4 (lpL XX 4) 18 wFnExactCallParse.c
  (mkG 0 66 [(5, AV.one (A1.p true 5 [] 0)), (7, AV.one (A1.v (Value.int IntKind.i64 y0)))]
    [(5,
        some
          { kind := Kind.box, row := [D.v (Value.int IntKind.i64 y1), D.s y2, D.s y3, D.v (Value.int IntKind.i64 y4), D.v (Value.string y5)],
            fl := [Own.deep, Own.deep, Own.deep, Own.deep, Own.deep] })]
    GL)
  (outE XX 4 Tryd.f4)
theorem wFnExactCallParse.e (a0 : ByteArray) :
    wFnExactCallParse [AV.one (A1.v (Value.string a0))] [] =
    bif decide ((↑a0.size : Int) > 1048576) then some { cells := [TC.v (Value.bool true)], objs := [] }
else
  (sCallParse [AV.one (A1.v (Value.string a0))] []).bind fun val =>
    bif fitsCells [R1.int IntKind.i64, R1.sh, R1.sh, R1.int IntKind.i64, R1.str, R1.bool] val.1 && true then
      (iCallParse [AV.one (A1.v (Value.string a0))] []).bind fun val_1 =>
        bif fitsCells [R1.int IntKind.i64, R1.own Own.deep, R1.own Own.deep, R1.int IntKind.i64, R1.str, R1.bool] val_1.1 && true then
          (weqCall
                [AV.g
                    [A1.v (Value.int IntKind.i64 (val_1.1.getD 0 TC.d).int), A1.s (val_1.1.getD 1 TC.d).es, A1.s (val_1.1.getD 2 TC.d).es, A1.v (Value.int IntKind.i64 (val_1.1.getD 3 TC.d).int),
                      A1.v (Value.string (val_1.1.getD 4 TC.d).str)],
                  AV.g
                    [A1.v (Value.int IntKind.i64 (val.1.getD 0 TC.d).int), A1.s (val.1.getD 1 TC.d).es, A1.s (val.1.getD 2 TC.d).es, A1.v (Value.int IntKind.i64 (val.1.getD 3 TC.d).int),
                      A1.v (Value.string (val.1.getD 4 TC.d).str)]]
                []).bind
            fun val_2 =>
            bif fitsCells [R1.bool] val_2.1 && true then
              bif !(val_2.1.getD 0 TC.d).bool then
                wFnExactCallParse.P6 a0 (val.1.getD 5 TC.d).bool true (val.1.getD 0 TC.d).int (val.1.getD 1 TC.d).es (val.1.getD 2 TC.d).es (val.1.getD 3 TC.d).int (val.1.getD 4 TC.d).str
                  (val_1.1.getD 0 TC.d).int (val_1.1.getD 1 TC.d).es (val_1.1.getD 2 TC.d).es (val_1.1.getD 3 TC.d).int (val_1.1.getD 4 TC.d).str
              else
                wFnExactCallParse.P6 a0 (val.1.getD 5 TC.d).bool (!(val_1.1.getD 5 TC.d).bool == (val.1.getD 5 TC.d).bool) (val.1.getD 0 TC.d).int (val.1.getD 1 TC.d).es (val.1.getD 2 TC.d).es
                  (val.1.getD 3 TC.d).int (val.1.getD 4 TC.d).str (val_1.1.getD 0 TC.d).int (val_1.1.getD 1 TC.d).es (val_1.1.getD 2 TC.d).es (val_1.1.getD 3 TC.d).int (val_1.1.getD 4 TC.d).str
            else none
        else none
    else none := by
  refine (wFnExactCallParse.run _ _ (by kernel_rfl)).trans ?_
  delta wFnExactCallParse sCallParse iCallParse weqCall wFnExactCallParse.P6 XX
  refine join_use [6, 7, 16, 17, 18] (by kernel_rfl) fun J e1 => ?_
  try simp only [← e1]
  clear e1
  generalize lpL (Y.ctx (lim' Y)) 4 = lp
  generalize lim' Y = call
  kernel_rfl
theorem wFnExactCallParse.p6 (y0 : ByteArray) (y1 : Bool) (y2 : Bool) (y3 : Int) (y4 : List (List D)) (y5 : List (List D)) (y6 : Int) (y7 : ByteArray) (y8 : Int) (y9 : List (List D)) (y10 : List (List D)) (y11 : Int) (y12 : ByteArray) :
    wFnExactCallParse.P6 y0 y1 y2 y3 y4 y5 y6 y7 y8 y9 y10 y11 y12 =
    bif y2 then some { cells := [TC.v (Value.bool false)], objs := [] } else wFnExactCallParse.P7 y0 y1 y3 y4 y5 y6 y7 y8 y9 y10 y11 y12 := by
  delta wFnExactCallParse.P6 wFnExactCallParse.P7 XX
  refine join_at [6, 7, 16, 17, 18] 6 (by kernel_rfl) fun J e1 => ?_
  try simp only [← e1]
  clear e1
  generalize lpL (Y.ctx (lim' Y)) 4 = lp
  generalize lim' Y = call
  kernel_rfl
theorem wFnExactCallParse.p7 (y0 : ByteArray) (y1 : Bool) (y2 : Int) (y3 : List (List D)) (y4 : List (List D)) (y5 : Int) (y6 : ByteArray) (y7 : Int) (y8 : List (List D)) (y9 : List (List D)) (y10 : Int) (y11 : ByteArray) :
    wFnExactCallParse.P7 y0 y1 y2 y3 y4 y5 y6 y7 y8 y9 y10 y11 =
    (wmarkCall [AV.g [A1.v (Value.int IntKind.i64 y7), A1.r 0 [] 0, A1.r 0 [] 1, A1.v (Value.int IntKind.i64 y10), A1.v (Value.string y11)], AV.one (A1.v (Value.int IntKind.i64 1))]
      [{ kind := Kind.virt, row := [D.s y8, D.s y9], fl := [Own.deep, Own.deep] }]).bind
  fun val =>
  bif fitsCells [R1.int IntKind.i64] val.1 && fitsCos [{ ob := { kind := Kind.virt, row := [D.s y8, D.s y9], fl := [Own.deep, Own.deep] }, src := Src.grp 5 [1, 2] false }] val.2 then
    (wheldCall
          [AV.g
              [A1.v (Value.int IntKind.i64 y7), A1.s ((val.2.getD 0 { kind := Kind.ro, row := [], fl := [] }).2.getD 0 D.h).es,
                A1.s ((val.2.getD 0 { kind := Kind.ro, row := [], fl := [] }).2.getD 1 D.h).es, A1.v (Value.int IntKind.i64 y10), A1.v (Value.string y11)],
            AV.one (A1.v (Value.int IntKind.i64 1))]
          []).bind
      fun val_1 =>
      bif fitsCells [R1.int IntKind.i64] val_1.1 && true then
        bif decide ((val_1.1.getD 0 TC.d).int < 0) then some { cells := [TC.v (Value.bool false)], objs := [] }
        else
          bif (val_1.1.getD 0 TC.d).int != (val.1.getD 0 TC.d).int then some { cells := [TC.v (Value.bool false)], objs := [] }
          else
            (iCallParse [AV.one (A1.v (Value.string y0))] []).bind fun val_2 =>
              bif fitsCells [R1.int IntKind.i64, R1.own Own.deep, R1.own Own.deep, R1.int IntKind.i64, R1.str, R1.bool] val_2.1 && true then
                wFnExactCallParse.P16 y1 (val.1.getD 0 TC.d).int (val_2.1.getD 5 TC.d).bool y2 y3 y4 y5 y6 y7 ((val.2.getD 0 { kind := Kind.ro, row := [], fl := [] }).2.getD 0 D.h).es
                  ((val.2.getD 0 { kind := Kind.ro, row := [], fl := [] }).2.getD 1 D.h).es y10 y11 (val_2.1.getD 0 TC.d).int (val_2.1.getD 1 TC.d).es (val_2.1.getD 2 TC.d).es
                  (val_2.1.getD 3 TC.d).int (val_2.1.getD 4 TC.d).str
              else none
      else none
  else none := by
  delta wFnExactCallParse.P7 wmarkCall wheldCall iCallParse wFnExactCallParse.P16 XX
  refine join_at [6, 7, 16, 17, 18] 7 (by kernel_rfl) fun J e1 => ?_
  try simp only [← e1]
  clear e1
  generalize lpL (Y.ctx (lim' Y)) 4 = lp
  generalize lim' Y = call
  kernel_rfl
theorem wFnExactCallParse.p16 (y0 : Bool) (y1 : Int) (y2 : Bool) (y3 : Int) (y4 : List (List D)) (y5 : List (List D)) (y6 : Int) (y7 : ByteArray) (y8 : Int) (y9 : List (List D)) (y10 : List (List D)) (y11 : Int) (y12 : ByteArray) (y13 : Int) (y14 : List (List D)) (y15 : List (List D)) (y16 : Int) (y17 : ByteArray) :
    wFnExactCallParse.P16 y0 y1 y2 y3 y4 y5 y6 y7 y8 y9 y10 y11 y12 y13 y14 y15 y16 y17 =
    (weqCall
      [AV.g [A1.v (Value.int IntKind.i64 y13), A1.s y14, A1.s y15, A1.v (Value.int IntKind.i64 y16), A1.v (Value.string y17)],
        AV.g [A1.v (Value.int IntKind.i64 y3), A1.s y4, A1.s y5, A1.v (Value.int IntKind.i64 y6), A1.v (Value.string y7)]]
      []).bind
  fun val =>
  bif fitsCells [R1.bool] val.1 && true then bif !(val.1.getD 0 TC.d).bool then wFnExactCallParse.P17 y1 true y8 y9 y10 y11 y12 else wFnExactCallParse.P17 y1 (!y2 == y0) y8 y9 y10 y11 y12 else none := by
  delta wFnExactCallParse.P16 weqCall wFnExactCallParse.P17 XX
  refine join_at [6, 7, 16, 17, 18] 16 (by kernel_rfl) fun J e1 => ?_
  try simp only [← e1]
  clear e1
  generalize lpL (Y.ctx (lim' Y)) 4 = lp
  generalize lim' Y = call
  kernel_rfl
theorem wFnExactCallParse.p17 (y0 : Int) (y1 : Bool) (y2 : Int) (y3 : List (List D)) (y4 : List (List D)) (y5 : Int) (y6 : ByteArray) :
    wFnExactCallParse.P17 y0 y1 y2 y3 y4 y5 y6 =
    bif y1 then some { cells := [TC.v (Value.bool false)], objs := [] } else wFnExactCallParse.P18 y0 y2 y3 y4 y5 y6 := by
  delta wFnExactCallParse.P17 wFnExactCallParse.P18 XX
  refine join_at [6, 7, 16, 17, 18] 17 (by kernel_rfl) fun J e1 => ?_
  try simp only [← e1]
  clear e1
  generalize lpL (Y.ctx (lim' Y)) 4 = lp
  generalize lim' Y = call
  kernel_rfl
theorem wFnExactCallParse.p18 (y0 : Int) (y1 : Int) (y2 : List (List D)) (y3 : List (List D)) (y4 : Int) (y5 : ByteArray) :
    wFnExactCallParse.P18 y0 y1 y2 y3 y4 y5 =
    (wheldCall [AV.g [A1.v (Value.int IntKind.i64 y1), A1.s y2, A1.s y3, A1.v (Value.int IntKind.i64 y4), A1.v (Value.string y5)], AV.one (A1.v (Value.int IntKind.i64 1))] []).bind fun val =>
  bif fitsCells [R1.int IntKind.i64] val.1 && true then
    bif decide ((val.1.getD 0 TC.d).int < 0) then some { cells := [TC.v (Value.bool false)], objs := [] }
    else bif (val.1.getD 0 TC.d).int != y0 then some { cells := [TC.v (Value.bool false)], objs := [] } else some { cells := [TC.v (Value.bool true)], objs := [] }
  else none := by
  delta wFnExactCallParse.P18 wheldCall XX
  refine join_at [6, 7, 16, 17, 18] 18 (by kernel_rfl) fun J e1 => ?_
  try simp only [← e1]
  clear e1
  generalize lpL (Y.ctx (lim' Y)) 4 = lp
  generalize lim' Y = call
  kernel_rfl


noncomputable def sCallParse.L4 (y0 : ByteArray) (y1 : Int) (y2 : Int) (y3 : List (List D)) (y4 : List (List D)) (y5 : Int) (y6 : ByteArray) (y7 : List (List D)) (y8 : Int) (y9 : List (List D)) (y10 : List (List D)) (y11 : Int) (y12 : ByteArray) : Option (Ex × St) := lpL XX 10 (bodyAt 4 sCallParse.c)
  (mkG 0 97 [(0, AV.one (A1.v (Value.string y0))), (2, AV.one (A1.p true 2 [] 0)), (4, AV.one (A1.r 4 [] 0)), (5, AV.one (A1.p true 5 [] 0)), (6, AV.one (A1.v (Value.int IntKind.i64 y1)))]
    [(2,
        some
          { kind := Kind.box, row := [D.v (Value.int IntKind.i64 y2), D.s y3, D.s y4, D.v (Value.int IntKind.i64 y5), D.v (Value.string y6)],
            fl := [Own.deep, Own.deep, Own.deep, Own.deep, Own.deep] }),
      (4, some { kind := Kind.virt, row := [D.s y7], fl := [Own.deep] }),
      (5,
        some
          { kind := Kind.box, row := [D.v (Value.int IntKind.i64 y8), D.s y9, D.s y10, D.v (Value.int IntKind.i64 y11), D.v (Value.string y12)],
            fl := [Own.deep, Own.deep, Own.deep, Own.deep, Own.deep] })]
    GL)
noncomputable def sCallParse.A4 : Ex × St → Option Res := fun r => evA XX 10 (lpL XX 10) 4 sCallParse.c r.fst r.snd (outE XX 10 Tryd.f10)
noncomputable def sCallParse.x4 (y0 : ByteArray) (y1 : Int) (y2 : List (List D)) (y3 : List (List D)) (y4 : Int) (y5 : ByteArray) (y6 : List (List D)) (y7 : Int) (y8 : List (List D)) (y9 : List (List D)) (y10 : Int) (y11 : ByteArray) : Ex × St := (Ex.exit 0,
  mkG 0 97 [(0, AV.one (A1.v (Value.string y0))), (2, AV.one (A1.p true 2 [] 0)), (4, AV.one (A1.r 4 [] 0)), (5, AV.one (A1.p true 5 [] 0))]
    [(2,
        some
          { kind := Kind.box, row := [D.v (Value.int IntKind.i64 y1), D.s y2, D.s y3, D.v (Value.int IntKind.i64 y4), D.v (Value.string y5)],
            fl := [Own.deep, Own.deep, Own.deep, Own.deep, Own.deep] }),
      (4, some { kind := Kind.virt, row := [D.s y6], fl := [Own.deep] }),
      (5,
        some
          { kind := Kind.box, row := [D.v (Value.int IntKind.i64 y7), D.s y8, D.s y9, D.v (Value.int IntKind.i64 y10), D.v (Value.string y11)],
            fl := [Own.deep, Own.deep, Own.deep, Own.deep, Own.deep] })]
    GL)
noncomputable def sCallParse.P9 (y0 : ByteArray) (y1 : Bool) (y2 : Int) (y3 : List (List D)) (y4 : List (List D)) (y5 : Int) (y6 : ByteArray) (y7 : List (List D)) (y8 : Int) (y9 : List (List D)) (y10 : List (List D)) (y11 : Int) (y12 : ByteArray) : Option Res := evB XX 10 (lpL XX 10) 9 sCallParse.c
  (mkG 0 97 [(0, AV.one (A1.v (Value.string y0))), (2, AV.one (A1.p true 2 [] 0)), (4, AV.one (A1.r 4 [] 0)), (5, AV.one (A1.p true 5 [] 0)), (35, AV.one (A1.v (Value.bool y1)))]
    [(2,
        some
          { kind := Kind.box, row := [D.v (Value.int IntKind.i64 y2), D.s y3, D.s y4, D.v (Value.int IntKind.i64 y5), D.v (Value.string y6)],
            fl := [Own.deep, Own.deep, Own.deep, Own.deep, Own.deep] }),
      (4, some { kind := Kind.virt, row := [D.s y7], fl := [Own.deep] }),
      (5,
        some
          { kind := Kind.box, row := [D.v (Value.int IntKind.i64 y8), D.s y9, D.s y10, D.v (Value.int IntKind.i64 y11), D.v (Value.string y12)],
            fl := [Own.deep, Own.deep, Own.deep, Own.deep, Own.deep] })]
    GL)
  (outE XX 10 Tryd.f10)
noncomputable def sCallParse.P10 (y0 : ByteArray) (y1 : Int) (y2 : List (List D)) (y3 : List (List D)) (y4 : Int) (y5 : ByteArray) (y6 : List (List D)) (y7 : Int) (y8 : List (List D)) (y9 : List (List D)) (y10 : Int) (y11 : ByteArray) : Option Res := evB XX 10 (lpL XX 10) 10 sCallParse.c
  (mkG 0 97 [(0, AV.one (A1.v (Value.string y0))), (2, AV.one (A1.p true 2 [] 0)), (4, AV.one (A1.r 4 [] 0)), (5, AV.one (A1.p true 5 [] 0))]
    [(2,
        some
          { kind := Kind.box, row := [D.v (Value.int IntKind.i64 y1), D.s y2, D.s y3, D.v (Value.int IntKind.i64 y4), D.v (Value.string y5)],
            fl := [Own.deep, Own.deep, Own.deep, Own.deep, Own.deep] }),
      (4, some { kind := Kind.virt, row := [D.s y6], fl := [Own.deep] }),
      (5,
        some
          { kind := Kind.box, row := [D.v (Value.int IntKind.i64 y7), D.s y8, D.s y9, D.v (Value.int IntKind.i64 y10), D.v (Value.string y11)],
            fl := [Own.deep, Own.deep, Own.deep, Own.deep, Own.deep] })]
    GL)
  (outE XX 10 Tryd.f10)
noncomputable def sCallParse.P21 (y0 : ByteArray) (y1 : Bool) (y2 : Int) (y3 : List (List D)) (y4 : List (List D)) (y5 : Int) (y6 : ByteArray) (y7 : Int) (y8 : List (List D)) (y9 : List (List D)) (y10 : Int) (y11 : ByteArray) : Option Res := evB XX 10 (lpL XX 10) 21 sCallParse.c
  (mkG 0 97 [(0, AV.one (A1.v (Value.string y0))), (2, AV.one (A1.p true 2 [] 0)), (5, AV.one (A1.p true 5 [] 0)), (8, AV.one (A1.v (Value.bool y1)))]
    [(2,
        some
          { kind := Kind.box, row := [D.v (Value.int IntKind.i64 y2), D.s y3, D.s y4, D.v (Value.int IntKind.i64 y5), D.v (Value.string y6)],
            fl := [Own.deep, Own.deep, Own.deep, Own.deep, Own.deep] }),
      (5,
        some
          { kind := Kind.box, row := [D.v (Value.int IntKind.i64 y7), D.s y8, D.s y9, D.v (Value.int IntKind.i64 y10), D.v (Value.string y11)], fl := [Own.deep, Own.sh, Own.sh, Own.deep, Own.deep] })]
    GL)
  (outE XX 10 Tryd.f10)
noncomputable def sCallParse.P21b (y0 : ByteArray) (y1 : Bool) (y2 : Int) (y3 : List (List D)) (y4 : List (List D)) (y5 : Int) (y6 : ByteArray) (y7 : Int) (y8 : List (List D)) (y9 : List (List D)) (y10 : Int) (y11 : ByteArray) : Option Res := evB XX 10 (lpL XX 10) 21 sCallParse.c
  (mkG 0 97 [(0, AV.one (A1.v (Value.string y0))), (2, AV.one (A1.p true 2 [] 0)), (5, AV.one (A1.p true 5 [] 0)), (8, AV.one (A1.v (Value.bool y1)))]
    [(2,
        some
          { kind := Kind.box, row := [D.v (Value.int IntKind.i64 y2), D.s y3, D.s y4, D.v (Value.int IntKind.i64 y5), D.v (Value.string y6)],
            fl := [Own.deep, Own.deep, Own.deep, Own.deep, Own.deep] }),
      (5,
        some
          { kind := Kind.box, row := [D.v (Value.int IntKind.i64 y7), D.s y8, D.s y9, D.v (Value.int IntKind.i64 y10), D.v (Value.string y11)],
            fl := [Own.deep, Own.sh, Own.deep, Own.deep, Own.deep] })]
    GL)
  (outE XX 10 Tryd.f10)
noncomputable def sCallParse.P15 (y0 : ByteArray) (y1 : Bool) (y2 : Int) (y3 : List (List D)) (y4 : List (List D)) (y5 : Int) (y6 : ByteArray) (y7 : List (List D)) (y8 : Int) (y9 : List (List D)) (y10 : List (List D)) (y11 : Int) (y12 : ByteArray) : Option Res := evB XX 10 (lpL XX 10) 15 sCallParse.c
  (mkG 0 97 [(0, AV.one (A1.v (Value.string y0))), (2, AV.one (A1.p true 2 [] 0)), (4, AV.one (A1.r 4 [] 0)), (5, AV.one (A1.p true 5 [] 0)), (8, AV.one (A1.v (Value.bool y1)))]
    [(2,
        some
          { kind := Kind.box, row := [D.v (Value.int IntKind.i64 y2), D.s y3, D.s y4, D.v (Value.int IntKind.i64 y5), D.v (Value.string y6)],
            fl := [Own.deep, Own.deep, Own.deep, Own.deep, Own.deep] }),
      (4, some { kind := Kind.virt, row := [D.s y7], fl := [Own.deep] }),
      (5,
        some
          { kind := Kind.box, row := [D.v (Value.int IntKind.i64 y8), D.s y9, D.s y10, D.v (Value.int IntKind.i64 y11), D.v (Value.string y12)],
            fl := [Own.deep, Own.sh, Own.deep, Own.deep, Own.deep] })]
    GL)
  (outE XX 10 Tryd.f10)
noncomputable def sCallParse.P22 (y0 : Bool) (y1 : Int) (y2 : List (List D)) (y3 : List (List D)) (y4 : Int) (y5 : ByteArray) (y6 : Int) (y7 : List (List D)) (y8 : List (List D)) (y9 : Int) (y10 : ByteArray) : Option Res := evB XX 10 (lpL XX 10) 22 sCallParse.c
  (mkG 0 97 [(2, AV.one (A1.p true 2 [] 0)), (5, AV.one (A1.p true 5 [] 0)), (94, AV.one (A1.v (Value.bool y0)))]
    [(2,
        some
          { kind := Kind.box, row := [D.v (Value.int IntKind.i64 y1), D.s y2, D.s y3, D.v (Value.int IntKind.i64 y4), D.v (Value.string y5)],
            fl := [Own.deep, Own.deep, Own.deep, Own.deep, Own.deep] }),
      (5,
        some
          { kind := Kind.box, row := [D.v (Value.int IntKind.i64 y6), D.s y7, D.s y8, D.v (Value.int IntKind.i64 y9), D.v (Value.string y10)], fl := [Own.deep, Own.sh, Own.sh, Own.deep, Own.deep] })]
    GL)
  (outE XX 10 Tryd.f10)
noncomputable def sCallParse.P22b (y0 : Bool) (y1 : Int) (y2 : List (List D)) (y3 : List (List D)) (y4 : Int) (y5 : ByteArray) (y6 : Int) (y7 : List (List D)) (y8 : List (List D)) (y9 : Int) (y10 : ByteArray) : Option Res := evB XX 10 (lpL XX 10) 22 sCallParse.c
  (mkG 0 97 [(2, AV.one (A1.p true 2 [] 0)), (5, AV.one (A1.p true 5 [] 0)), (94, AV.one (A1.v (Value.bool y0)))]
    [(2,
        some
          { kind := Kind.box, row := [D.v (Value.int IntKind.i64 y1), D.s y2, D.s y3, D.v (Value.int IntKind.i64 y4), D.v (Value.string y5)],
            fl := [Own.deep, Own.deep, Own.deep, Own.deep, Own.deep] }),
      (5,
        some
          { kind := Kind.box, row := [D.v (Value.int IntKind.i64 y6), D.s y7, D.s y8, D.v (Value.int IntKind.i64 y9), D.v (Value.string y10)],
            fl := [Own.deep, Own.sh, Own.deep, Own.deep, Own.deep] })]
    GL)
  (outE XX 10 Tryd.f10)
noncomputable def sCallParse.P16 (y0 : ByteArray) (y1 : Bool) (y2 : Bool) (y3 : Int) (y4 : List (List D)) (y5 : List (List D)) (y6 : Int) (y7 : ByteArray) (y8 : List (List D)) (y9 : Int) (y10 : List (List D)) (y11 : List (List D)) (y12 : Int) (y13 : ByteArray) : Option Res := evB XX 10 (lpL XX 10) 16 sCallParse.c
  (mkG 0 97
    [(0, AV.one (A1.v (Value.string y0))), (2, AV.one (A1.p true 2 [] 0)), (4, AV.one (A1.r 4 [] 0)), (5, AV.one (A1.p true 5 [] 0)), (8, AV.one (A1.v (Value.bool y1))),
      (63, AV.one (A1.v (Value.bool y2)))]
    [(2,
        some
          { kind := Kind.box, row := [D.v (Value.int IntKind.i64 y3), D.s y4, D.s y5, D.v (Value.int IntKind.i64 y6), D.v (Value.string y7)],
            fl := [Own.deep, Own.deep, Own.deep, Own.deep, Own.deep] }),
      (4, some { kind := Kind.virt, row := [D.s y8], fl := [Own.deep] }),
      (5,
        some
          { kind := Kind.box, row := [D.v (Value.int IntKind.i64 y9), D.s y10, D.s y11, D.v (Value.int IntKind.i64 y12), D.v (Value.string y13)],
            fl := [Own.deep, Own.sh, Own.deep, Own.deep, Own.deep] })]
    GL)
  (outE XX 10 Tryd.f10)
theorem sCallParse.e (a0 : ByteArray) :
    sCallParse [AV.one (A1.v (Value.string a0))] [] =
    (sl1Cut [AV.one (A1.v (Value.string a0)), AV.one (A1.v (Value.int IntKind.u8 32))] []).bind fun val =>
  bif fitsCells [R1.own Own.deep] val.1 && true then (sCallParse.L4 a0 1 0 [] [] 0 (ByteArray.mk #[]) (val.1.getD 0 TC.d).es 0 [] [] 0 (ByteArray.mk #[])).bind sCallParse.A4 else none := by
  refine (sCallParse.run _ _ (by kernel_rfl)).trans ?_
  delta sCallParse sl1Cut sCallParse.L4 sCallParse.A4 XX
  refine join_use [9, 10, 15, 16, 21, 22] (by kernel_rfl) fun J e1 => ?_
  have eA := evA_J [9, 10, 15, 16, 21, 22] 4 (by kernel_rfl) e1
  try simp only [eA]
  clear eA
  try simp only [← e1]
  clear e1
  show _ = _
  generalize lpL (Y.ctx (lim' Y)) 10 = lp
  generalize lim' Y = call
  kernel_rfl
theorem sCallParse.s4 (y0 : ByteArray) (y1 : Int) (y2 : Int) (y3 : List (List D)) (y4 : List (List D)) (y5 : Int) (y6 : ByteArray) (y7 : List (List D)) (y8 : Int) (y9 : List (List D)) (y10 : List (List D)) (y11 : Int) (y12 : ByteArray) :
    sCallParse.L4 y0 y1 y2 y3 y4 y5 y6 y7 y8 y9 y10 y11 y12 =
    (sl42Words [] []).bind fun val =>
  bif fitsCells [R1.own Own.deep] val.1 && true then
    bif decide (y1 < (↑(val.1.getD 0 TC.d).es.length : Int)) then
      (sl42Words [] []).bind fun val =>
        bif fitsCells [R1.own Own.deep] val.1 && true then
          bif decide (0 ≤ y1) && decide (y1 < (↑(val.1.getD 0 TC.d).es.length : Int)) && decide (((val.1.getD 0 TC.d).es.getD y1.toNat []).length = 1) then
            bif fitsRow [CK.str] ((val.1.getD 0 TC.d).es.getD y1.toNat []) 0 && decide (1 ≤ ((val.1.getD 0 TC.d).es.getD y1.toNat []).length) then
              bif decide (0 < (↑y7.length : Int)) && decide ((y7.getD 0 []).length = 1) then
                bif fitsRow [CK.str] (y7.getD 0 []) 0 && decide (1 ≤ (y7.getD 0 []).length) then
                  bif (((val.1.getD 0 TC.d).es.getD y1.toNat []).getD 0 D.h).str.toList == ((y7.getD 0 []).getD 0 D.h).str.toList then
                    sCallParse.L4 y0 (IntKind.i64.wrap (y1 + 1)) y2 y3 y4 y5 y6 y7 y1 y9 y10 y11 y12
                  else sCallParse.L4 y0 (IntKind.i64.wrap (y1 + 1)) y2 y3 y4 y5 y6 y7 y8 y9 y10 y11 y12
                else none
              else none
            else none
          else none
        else none
    else some (sCallParse.x4 y0 y2 y3 y4 y5 y6 y7 y8 y9 y10 y11 y12)
  else none := by
  refine (lpL_eq (Y := Y) (c := lim' Y) (fn := 10) (rid := 4) (b := bodyAt 4 sCallParse.c) (by kernel_rfl) _).trans ?_
  delta sCallParse.L4 sl42Words sCallParse.x4 XX
  generalize lpL (Y.ctx (lim' Y)) 10 = lp
  generalize lim' Y = call
  kernel_rfl
theorem sCallParse.a4x4 (y0 : ByteArray) (y1 : Int) (y2 : List (List D)) (y3 : List (List D)) (y4 : Int) (y5 : ByteArray) (y6 : List (List D)) (y7 : Int) (y8 : List (List D)) (y9 : List (List D)) (y10 : Int) (y11 : ByteArray) :
    sCallParse.A4 (sCallParse.x4 y0 y1 y2 y3 y4 y5 y6 y7 y8 y9 y10 y11) =
    bif y7 == 0 then sCallParse.P9 y0 true y1 y2 y3 y4 y5 y6 y7 y8 y9 y10 y11 else sCallParse.P9 y0 (decide ((↑y6.length : Int) < 2)) y1 y2 y3 y4 y5 y6 y7 y8 y9 y10 y11 := by
  delta sCallParse.A4 sCallParse.x4 sCallParse.P9 XX
  refine join_behind [9, 10, 15, 16, 21, 22] 4 (by kernel_rfl) fun J e1 => ?_
  have eA := evA_J [9, 10, 15, 16, 21, 22] 4 (by kernel_rfl) e1
  try simp only [eA]
  clear eA
  try simp only [← e1]
  clear e1
  show _ = _
  generalize lpL (Y.ctx (lim' Y)) 10 = lp
  generalize lim' Y = call
  kernel_rfl
theorem sCallParse.p9 (y0 : ByteArray) (y1 : Bool) (y2 : Int) (y3 : List (List D)) (y4 : List (List D)) (y5 : Int) (y6 : ByteArray) (y7 : List (List D)) (y8 : Int) (y9 : List (List D)) (y10 : List (List D)) (y11 : Int) (y12 : ByteArray) :
    sCallParse.P9 y0 y1 y2 y3 y4 y5 y6 y7 y8 y9 y10 y11 y12 =
    bif y1 then some { cells := [TC.v (Value.int IntKind.i64 0), TC.s [], TC.s [], TC.v (Value.int IntKind.i64 0), TC.v (Value.string (ByteArray.mk #[])), TC.v (Value.bool false)], objs := [] }
else sCallParse.P10 y0 y2 y3 y4 y5 y6 y7 y8 y9 y10 y11 y12 := by
  delta sCallParse.P9 sCallParse.P10 XX
  refine join_at [9, 10, 15, 16, 21, 22] 9 (by kernel_rfl) fun J e1 => ?_
  try simp only [← e1]
  clear e1
  generalize lpL (Y.ctx (lim' Y)) 10 = lp
  generalize lim' Y = call
  kernel_rfl
theorem sCallParse.p10 (y0 : ByteArray) (y1 : Int) (y2 : List (List D)) (y3 : List (List D)) (y4 : Int) (y5 : ByteArray) (y6 : List (List D)) (y7 : Int) (y8 : List (List D)) (y9 : List (List D)) (y10 : Int) (y11 : ByteArray) :
    sCallParse.P10 y0 y1 y2 y3 y4 y5 y6 y7 y8 y9 y10 y11 =
    bif decide (1 < (↑y6.length : Int)) && decide ((y6.getD 1 []).length = 1) then
  bif fitsRow [CK.str] (y6.getD 1 []) 0 && decide (1 ≤ (y6.getD 1 []).length) then
    (sl41PathOf [AV.one (A1.v (Value.string ((y6.getD 1 []).getD 0 D.h).str))] []).bind fun val =>
      bif fitsCells [R1.sh, R1.bool] val.1 && true then
        bif y7 == 5 then
          bif decide ((↑y6.length : Int) > 2) then
            bif decide (2 < (↑y6.length : Int)) && decide ((y6.getD 2 []).length = 1) then
              bif fitsRow [CK.str] (y6.getD 2 []) 0 && decide (1 ≤ (y6.getD 2 []).length) then
                (sl41PathOf [AV.one (A1.v (Value.string ((y6.getD 2 []).getD 0 D.h).str))] []).bind fun val_1 =>
                  bif fitsCells [R1.sh, R1.bool] val_1.1 && true then sCallParse.P21 y0 (val.1.getD 1 TC.d).bool y1 y2 y3 y4 y5 y7 (val.1.getD 0 TC.d).es (val_1.1.getD 0 TC.d).es y10 y11 else none
              else none
            else none
          else sCallParse.P21b y0 (val.1.getD 1 TC.d).bool y1 y2 y3 y4 y5 y7 (val.1.getD 0 TC.d).es y9 y10 y11
        else
          bif y7 == 4 then sCallParse.P21b y0 (val.1.getD 1 TC.d).bool y1 y2 y3 y4 y5 y7 (val.1.getD 0 TC.d).es y9 y10 y11
          else
            bif decide ((↑y6.length : Int) > 2) then
              bif decide (2 < (↑y6.length : Int)) && decide ((y6.getD 2 []).length = 1) then
                bif fitsRow [CK.str] (y6.getD 2 []) 0 && decide (1 ≤ (y6.getD 2 []).length) then
                  (sl22Num [AV.one (A1.v (Value.string ((y6.getD 2 []).getD 0 D.h).str))] []).bind fun val_1 =>
                    bif fitsCells [R1.int IntKind.i64] val_1.1 && true then sCallParse.P15 y0 (val.1.getD 1 TC.d).bool y1 y2 y3 y4 y5 y6 y7 (val.1.getD 0 TC.d).es y9 (val_1.1.getD 0 TC.d).int y11
                    else none
                else none
              else none
            else sCallParse.P15 y0 (val.1.getD 1 TC.d).bool y1 y2 y3 y4 y5 y6 y7 (val.1.getD 0 TC.d).es y9 y10 y11
      else none
  else none
else none := by
  delta sCallParse.P10 sl41PathOf sCallParse.P21 sCallParse.P21b sl22Num sCallParse.P15 XX
  refine join_at [9, 10, 15, 16, 21, 22] 10 (by kernel_rfl) fun J e1 => ?_
  try simp only [← e1]
  clear e1
  generalize lpL (Y.ctx (lim' Y)) 10 = lp
  generalize lim' Y = call
  kernel_rfl
theorem sCallParse.p21 (y0 : ByteArray) (y1 : Bool) (y2 : Int) (y3 : List (List D)) (y4 : List (List D)) (y5 : Int) (y6 : ByteArray) (y7 : Int) (y8 : List (List D)) (y9 : List (List D)) (y10 : Int) (y11 : ByteArray) :
    sCallParse.P21 y0 y1 y2 y3 y4 y5 y6 y7 y8 y9 y10 y11 =
    bif !y1 then sCallParse.P22 true y2 y3 y4 y5 y6 y7 y8 y9 y10 y11
else
  (sCallText [AV.g [A1.v (Value.int IntKind.i64 y7), A1.s y8, A1.s y9, A1.v (Value.int IntKind.i64 y10), A1.v (Value.string y11)]] []).bind fun val =>
    bif fitsCells [R1.str] val.1 && true then sCallParse.P22 (!(val.1.getD 0 TC.d).str.toList == y0.toList) y2 y3 y4 y5 y6 y7 y8 y9 y10 y11 else none := by
  delta sCallParse.P21 sCallParse.P22 sCallText XX
  refine join_at [9, 10, 15, 16, 21, 22] 21 (by kernel_rfl) fun J e1 => ?_
  try simp only [← e1]
  clear e1
  generalize lpL (Y.ctx (lim' Y)) 10 = lp
  generalize lim' Y = call
  kernel_rfl
theorem sCallParse.p21b (y0 : ByteArray) (y1 : Bool) (y2 : Int) (y3 : List (List D)) (y4 : List (List D)) (y5 : Int) (y6 : ByteArray) (y7 : Int) (y8 : List (List D)) (y9 : List (List D)) (y10 : Int) (y11 : ByteArray) :
    sCallParse.P21b y0 y1 y2 y3 y4 y5 y6 y7 y8 y9 y10 y11 =
    bif !y1 then sCallParse.P22b true y2 y3 y4 y5 y6 y7 y8 y9 y10 y11
else
  (sCallText [AV.g [A1.v (Value.int IntKind.i64 y7), A1.s y8, A1.s y9, A1.v (Value.int IntKind.i64 y10), A1.v (Value.string y11)]] []).bind fun val =>
    bif fitsCells [R1.str] val.1 && true then sCallParse.P22b (!(val.1.getD 0 TC.d).str.toList == y0.toList) y2 y3 y4 y5 y6 y7 y8 y9 y10 y11 else none := by
  delta sCallParse.P21b sCallParse.P22b sCallText XX
  refine join_at [9, 10, 15, 16, 21, 22] 21 (by kernel_rfl) fun J e1 => ?_
  try simp only [← e1]
  clear e1
  generalize lpL (Y.ctx (lim' Y)) 10 = lp
  generalize lim' Y = call
  kernel_rfl
theorem sCallParse.p15 (y0 : ByteArray) (y1 : Bool) (y2 : Int) (y3 : List (List D)) (y4 : List (List D)) (y5 : Int) (y6 : ByteArray) (y7 : List (List D)) (y8 : Int) (y9 : List (List D)) (y10 : List (List D)) (y11 : Int) (y12 : ByteArray) :
    sCallParse.P15 y0 y1 y2 y3 y4 y5 y6 y7 y8 y9 y10 y11 y12 =
    bif decide ((↑y7.length : Int) > 3) then sCallParse.P16 y0 y1 (y8 == 2) y2 y3 y4 y5 y6 y7 y8 y9 y10 y11 y12 else sCallParse.P16 y0 y1 false y2 y3 y4 y5 y6 y7 y8 y9 y10 y11 y12 := by
  delta sCallParse.P15 sCallParse.P16 XX
  refine join_at [9, 10, 15, 16, 21, 22] 15 (by kernel_rfl) fun J e1 => ?_
  try simp only [← e1]
  clear e1
  generalize lpL (Y.ctx (lim' Y)) 10 = lp
  generalize lim' Y = call
  kernel_rfl
theorem sCallParse.p22 (y0 : Bool) (y1 : Int) (y2 : List (List D)) (y3 : List (List D)) (y4 : Int) (y5 : ByteArray) (y6 : Int) (y7 : List (List D)) (y8 : List (List D)) (y9 : Int) (y10 : ByteArray) :
    sCallParse.P22 y0 y1 y2 y3 y4 y5 y6 y7 y8 y9 y10 =
    bif y0 then some { cells := [TC.v (Value.int IntKind.i64 0), TC.s [], TC.s [], TC.v (Value.int IntKind.i64 0), TC.v (Value.string (ByteArray.mk #[])), TC.v (Value.bool false)], objs := [] }
else some { cells := [TC.v (Value.int IntKind.i64 y6), TC.s y7, TC.s y8, TC.v (Value.int IntKind.i64 y9), TC.v (Value.string y10), TC.v (Value.bool true)], objs := [] } := by
  delta sCallParse.P22 XX
  refine join_at [9, 10, 15, 16, 21, 22] 22 (by kernel_rfl) fun J e1 => ?_
  try simp only [← e1]
  clear e1
  generalize lpL (Y.ctx (lim' Y)) 10 = lp
  generalize lim' Y = call
  kernel_rfl
theorem sCallParse.p22b (y0 : Bool) (y1 : Int) (y2 : List (List D)) (y3 : List (List D)) (y4 : Int) (y5 : ByteArray) (y6 : Int) (y7 : List (List D)) (y8 : List (List D)) (y9 : Int) (y10 : ByteArray) :
    sCallParse.P22b y0 y1 y2 y3 y4 y5 y6 y7 y8 y9 y10 =
    bif y0 then some { cells := [TC.v (Value.int IntKind.i64 0), TC.s [], TC.s [], TC.v (Value.int IntKind.i64 0), TC.v (Value.string (ByteArray.mk #[])), TC.v (Value.bool false)], objs := [] }
else some { cells := [TC.v (Value.int IntKind.i64 y6), TC.s y7, TC.s y8, TC.v (Value.int IntKind.i64 y9), TC.v (Value.string y10), TC.v (Value.bool true)], objs := [] } := by
  delta sCallParse.P22b XX
  refine join_at [9, 10, 15, 16, 21, 22] 22 (by kernel_rfl) fun J e1 => ?_
  try simp only [← e1]
  clear e1
  generalize lpL (Y.ctx (lim' Y)) 10 = lp
  generalize lim' Y = call
  kernel_rfl
theorem sCallParse.p16 (y0 : ByteArray) (y1 : Bool) (y2 : Bool) (y3 : Int) (y4 : List (List D)) (y5 : List (List D)) (y6 : Int) (y7 : ByteArray) (y8 : List (List D)) (y9 : Int) (y10 : List (List D)) (y11 : List (List D)) (y12 : Int) (y13 : ByteArray) :
    sCallParse.P16 y0 y1 y2 y3 y4 y5 y6 y7 y8 y9 y10 y11 y12 y13 =
    bif y2 then
  bif decide (3 < (↑y8.length : Int)) && decide ((y8.getD 3 []).length = 1) then
    bif fitsRow [CK.str] (y8.getD 3 []) 0 && decide (1 ≤ (y8.getD 3 []).length) then
      (sl1Bytes [AV.one (A1.v (Value.string ((y8.getD 3 []).getD 0 D.h).str))] []).bind fun val =>
        bif fitsCells [R1.str, R1.bool] val.1 && true then sCallParse.P21b y0 y1 y3 y4 y5 y6 y7 y9 y10 y11 y12 (val.1.getD 0 TC.d).str else none
    else none
  else none
else sCallParse.P21b y0 y1 y3 y4 y5 y6 y7 y9 y10 y11 y12 y13 := by
  delta sCallParse.P16 sl1Bytes sCallParse.P21b XX
  refine join_at [9, 10, 15, 16, 21, 22] 16 (by kernel_rfl) fun J e1 => ?_
  try simp only [← e1]
  clear e1
  generalize lpL (Y.ctx (lim' Y)) 10 = lp
  generalize lim' Y = call
  kernel_rfl


noncomputable def iCallParse.P5 (y0 : ByteArray) (y1 : Int) (y2 : Bool) (y3 : Int) (y4 : List (List D)) (y5 : List (List D)) (y6 : Int) (y7 : ByteArray) (y8 : List (List D)) (y9 : Int) (y10 : List (List D)) (y11 : List (List D)) (y12 : Int) (y13 : ByteArray) : Option Res := evB XX 11 (lpL XX 11) 5 iCallParse.c
  (mkG 0 57
    [(0, AV.one (A1.v (Value.string y0))), (2, AV.one (A1.p true 2 [] 0)), (4, AV.one (A1.r 4 [] 0)), (5, AV.one (A1.p true 5 [] 0)), (21, AV.one (A1.v (Value.int IntKind.i64 y1))),
      (22, AV.one (A1.v (Value.bool y2)))]
    [(2,
        some
          { kind := Kind.box, row := [D.v (Value.int IntKind.i64 y3), D.s y4, D.s y5, D.v (Value.int IntKind.i64 y6), D.v (Value.string y7)],
            fl := [Own.deep, Own.deep, Own.deep, Own.deep, Own.deep] }),
      (4, some { kind := Kind.virt, row := [D.s y8], fl := [Own.deep] }),
      (5,
        some
          { kind := Kind.box, row := [D.v (Value.int IntKind.i64 y9), D.s y10, D.s y11, D.v (Value.int IntKind.i64 y12), D.v (Value.string y13)],
            fl := [Own.deep, Own.deep, Own.deep, Own.deep, Own.deep] })]
    GL)
  (outE XX 11 Tryd.f11)
noncomputable def iCallParse.P13 (y0 : ByteArray) (y1 : Int) (y2 : List (List D)) (y3 : List (List D)) (y4 : Int) (y5 : ByteArray) (y6 : Int) (y7 : List (List D)) (y8 : List (List D)) (y9 : Int) (y10 : ByteArray) : Option Res := evB XX 11 (lpL XX 11) 13 iCallParse.c
  (mkG 0 57 [(0, AV.one (A1.v (Value.string y0))), (2, AV.one (A1.p true 2 [] 0)), (5, AV.one (A1.p true 5 [] 0))]
    [(2,
        some
          { kind := Kind.box, row := [D.v (Value.int IntKind.i64 y1), D.s y2, D.s y3, D.v (Value.int IntKind.i64 y4), D.v (Value.string y5)],
            fl := [Own.deep, Own.deep, Own.deep, Own.deep, Own.deep] }),
      (5,
        some
          { kind := Kind.box, row := [D.v (Value.int IntKind.i64 y6), D.s y7, D.s y8, D.v (Value.int IntKind.i64 y9), D.v (Value.string y10)],
            fl := [Own.deep, Own.deep, Own.deep, Own.deep, Own.deep] })]
    GL)
  (outE XX 11 Tryd.f11)
noncomputable def iCallParse.P10 (y0 : ByteArray) (y1 : Bool) (y2 : Int) (y3 : List (List D)) (y4 : List (List D)) (y5 : Int) (y6 : ByteArray) (y7 : List (List D)) (y8 : Int) (y9 : List (List D)) (y10 : List (List D)) (y11 : Int) (y12 : ByteArray) : Option Res := evB XX 11 (lpL XX 11) 10 iCallParse.c
  (mkG 0 57 [(0, AV.one (A1.v (Value.string y0))), (2, AV.one (A1.p true 2 [] 0)), (4, AV.one (A1.r 4 [] 0)), (5, AV.one (A1.p true 5 [] 0)), (29, AV.one (A1.v (Value.bool y1)))]
    [(2,
        some
          { kind := Kind.box, row := [D.v (Value.int IntKind.i64 y2), D.s y3, D.s y4, D.v (Value.int IntKind.i64 y5), D.v (Value.string y6)],
            fl := [Own.deep, Own.deep, Own.deep, Own.deep, Own.deep] }),
      (4, some { kind := Kind.virt, row := [D.s y7], fl := [Own.deep] }),
      (5,
        some
          { kind := Kind.box, row := [D.v (Value.int IntKind.i64 y8), D.s y9, D.s y10, D.v (Value.int IntKind.i64 y11), D.v (Value.string y12)],
            fl := [Own.deep, Own.deep, Own.deep, Own.deep, Own.deep] })]
    GL)
  (outE XX 11 Tryd.f11)
noncomputable def iCallParse.P14 (y0 : Bool) (y1 : Int) (y2 : List (List D)) (y3 : List (List D)) (y4 : Int) (y5 : ByteArray) (y6 : Int) (y7 : List (List D)) (y8 : List (List D)) (y9 : Int) (y10 : ByteArray) : Option Res := evB XX 11 (lpL XX 11) 14 iCallParse.c
  (mkG 0 57 [(2, AV.one (A1.p true 2 [] 0)), (5, AV.one (A1.p true 5 [] 0)), (54, AV.one (A1.v (Value.bool y0)))]
    [(2,
        some
          { kind := Kind.box, row := [D.v (Value.int IntKind.i64 y1), D.s y2, D.s y3, D.v (Value.int IntKind.i64 y4), D.v (Value.string y5)],
            fl := [Own.deep, Own.deep, Own.deep, Own.deep, Own.deep] }),
      (5,
        some
          { kind := Kind.box, row := [D.v (Value.int IntKind.i64 y6), D.s y7, D.s y8, D.v (Value.int IntKind.i64 y9), D.v (Value.string y10)],
            fl := [Own.deep, Own.deep, Own.deep, Own.deep, Own.deep] })]
    GL)
  (outE XX 11 Tryd.f11)
theorem iCallParse.e (a0 : ByteArray) :
    iCallParse [AV.one (A1.v (Value.string a0))] [] =
    (strings_Split [AV.one (A1.v (Value.string a0)), AV.one (A1.v (Value.string (ByteArray.mk #[32])))] []).bind fun val =>
  bif fitsCells [R1.own Own.deep] val.1 && true then
    bif rowsLen 1 (val.1.getD 0 TC.d).es && true && true && true && decide (((val.1.getD 0 TC.d).es.length + 3) * 17 ≤ 70368744177664) then
      bif
          decide (0 < (↑((val.1.getD 0 TC.d).es ++ [[D.v (Value.string (ByteArray.mk #[]))], [D.v (Value.string (ByteArray.mk #[]))], [D.v (Value.string (ByteArray.mk #[]))]]).length : Int)) &&
            decide ((((val.1.getD 0 TC.d).es ++ [[D.v (Value.string (ByteArray.mk #[]))], [D.v (Value.string (ByteArray.mk #[]))], [D.v (Value.string (ByteArray.mk #[]))]]).getD 0 []).length = 1) then
        bif
            fitsRow [CK.str] (((val.1.getD 0 TC.d).es ++ [[D.v (Value.string (ByteArray.mk #[]))], [D.v (Value.string (ByteArray.mk #[]))], [D.v (Value.string (ByteArray.mk #[]))]]).getD 0 []) 0 &&
              decide (1 ≤ (((val.1.getD 0 TC.d).es ++ [[D.v (Value.string (ByteArray.mk #[]))], [D.v (Value.string (ByteArray.mk #[]))], [D.v (Value.string (ByteArray.mk #[]))]]).getD 0 []).length) then
          (slices_Index_Sstring_string
                [AV.one
                    (A1.s
                      [[D.v (Value.string (ByteArray.mk #[]))], [D.v (Value.string (ByteArray.mk #[109, 107, 100, 105, 114]))],
                        [D.v (Value.string (ByteArray.mk #[119, 114, 105, 116, 101]))],
                        [D.v (Value.string (ByteArray.mk #[116, 114, 117, 110, 99, 97, 116, 101]))],
                        [D.v (Value.string (ByteArray.mk #[114, 101, 109, 111, 118, 101]))],
                        [D.v (Value.string (ByteArray.mk #[114, 101, 110, 97, 109, 101]))],
                        [D.v (Value.string (ByteArray.mk #[99, 104, 109, 111, 100]))]]),
                  AV.one
                    (A1.v
                      (Value.string
                        ((((val.1.getD 0 TC.d).es ++ [[D.v (Value.string (ByteArray.mk #[]))], [D.v (Value.string (ByteArray.mk #[]))], [D.v (Value.string (ByteArray.mk #[]))]]).getD 0 []).getD 0 D.h).str))]
                []).bind
            fun val_1 =>
            bif fitsCells [R1.int IntKind.i64] val_1.1 && true then
              bif
                  decide (1 < (↑((val.1.getD 0 TC.d).es ++ [[D.v (Value.string (ByteArray.mk #[]))], [D.v (Value.string (ByteArray.mk #[]))], [D.v (Value.string (ByteArray.mk #[]))]]).length : Int)) &&
                    decide ((((val.1.getD 0 TC.d).es ++ [[D.v (Value.string (ByteArray.mk #[]))], [D.v (Value.string (ByteArray.mk #[]))], [D.v (Value.string (ByteArray.mk #[]))]]).getD 1 []).length = 1) then
                bif
                    fitsRow [CK.str] (((val.1.getD 0 TC.d).es ++ [[D.v (Value.string (ByteArray.mk #[]))], [D.v (Value.string (ByteArray.mk #[]))], [D.v (Value.string (ByteArray.mk #[]))]]).getD 1 []) 0 &&
                      decide
                        (1 ≤ (((val.1.getD 0 TC.d).es ++ [[D.v (Value.string (ByteArray.mk #[]))], [D.v (Value.string (ByteArray.mk #[]))], [D.v (Value.string (ByteArray.mk #[]))]]).getD 1 []).length) then
                  (ipathRead
                        [AV.one
                            (A1.v
                              (Value.string
                                ((((val.1.getD 0 TC.d).es ++ [[D.v (Value.string (ByteArray.mk #[]))], [D.v (Value.string (ByteArray.mk #[]))], [D.v (Value.string (ByteArray.mk #[]))]]).getD 1 []).getD 0
                                    D.h).str))]
                        []).bind
                    fun val_2 =>
                    bif fitsCells [R1.own Own.deep] val_2.1 && true then
                      iCallParse.P5 a0 (val_1.1.getD 0 TC.d).int ((val_1.1.getD 0 TC.d).int == 5) 0 [] [] 0 (ByteArray.mk #[])
                        ((val.1.getD 0 TC.d).es ++ [[D.v (Value.string (ByteArray.mk #[]))], [D.v (Value.string (ByteArray.mk #[]))], [D.v (Value.string (ByteArray.mk #[]))]]) (val_1.1.getD 0 TC.d).int
                        (val_2.1.getD 0 TC.d).es [] 0 (ByteArray.mk #[])
                    else none
                else none
              else none
            else none
        else none
      else none
    else none
  else none := by
  refine (iCallParse.run _ _ (by kernel_rfl)).trans ?_
  delta iCallParse strings_Split slices_Index_Sstring_string ipathRead iCallParse.P5 XX
  refine join_use [5, 10, 13, 14] (by kernel_rfl) fun J e1 => ?_
  try simp only [← e1]
  clear e1
  generalize lpL (Y.ctx (lim' Y)) 11 = lp
  generalize lim' Y = call
  kernel_rfl
theorem iCallParse.p5 (y0 : ByteArray) (y1 : Int) (y2 : Bool) (y3 : Int) (y4 : List (List D)) (y5 : List (List D)) (y6 : Int) (y7 : ByteArray) (y8 : List (List D)) (y9 : Int) (y10 : List (List D)) (y11 : List (List D)) (y12 : Int) (y13 : ByteArray) :
    iCallParse.P5 y0 y1 y2 y3 y4 y5 y6 y7 y8 y9 y10 y11 y12 y13 =
    bif y2 then
  bif decide (2 < (↑y8.length : Int)) && decide ((y8.getD 2 []).length = 1) then
    bif fitsRow [CK.str] (y8.getD 2 []) 0 && decide (1 ≤ (y8.getD 2 []).length) then
      (ipathRead [AV.one (A1.v (Value.string ((y8.getD 2 []).getD 0 D.h).str))] []).bind fun val =>
        bif fitsCells [R1.own Own.deep] val.1 && true then iCallParse.P13 y0 y3 y4 y5 y6 y7 y9 y10 (val.1.getD 0 TC.d).es y12 y13 else none
    else none
  else none
else
  bif y1 == 1 then iCallParse.P10 y0 (y1 == 1) y3 y4 y5 y6 y7 y8 y9 y10 y11 y12 y13
  else
    bif y1 == 2 then iCallParse.P10 y0 (y1 == 2) y3 y4 y5 y6 y7 y8 y9 y10 y11 y12 y13
    else bif y1 == 3 then iCallParse.P10 y0 (y1 == 3) y3 y4 y5 y6 y7 y8 y9 y10 y11 y12 y13 else iCallParse.P10 y0 (y1 == 6) y3 y4 y5 y6 y7 y8 y9 y10 y11 y12 y13 := by
  delta iCallParse.P5 ipathRead iCallParse.P13 iCallParse.P10 XX
  refine join_at [5, 10, 13, 14] 5 (by kernel_rfl) fun J e1 => ?_
  try simp only [← e1]
  clear e1
  generalize lpL (Y.ctx (lim' Y)) 11 = lp
  generalize lim' Y = call
  kernel_rfl
theorem iCallParse.p13 (y0 : ByteArray) (y1 : Int) (y2 : List (List D)) (y3 : List (List D)) (y4 : Int) (y5 : ByteArray) (y6 : Int) (y7 : List (List D)) (y8 : List (List D)) (y9 : Int) (y10 : ByteArray) :
    iCallParse.P13 y0 y1 y2 y3 y4 y5 y6 y7 y8 y9 y10 =
    bif y0.toList == [] then iCallParse.P14 true y1 y2 y3 y4 y5 y6 y7 y8 y9 y10
else
  (iCallText [AV.g [A1.v (Value.int IntKind.i64 y6), A1.s y7, A1.s y8, A1.v (Value.int IntKind.i64 y9), A1.v (Value.string y10)]] []).bind fun val =>
    bif fitsCells [R1.str] val.1 && true then iCallParse.P14 (!(val.1.getD 0 TC.d).str.toList == y0.toList) y1 y2 y3 y4 y5 y6 y7 y8 y9 y10 else none := by
  delta iCallParse.P13 iCallParse.P14 iCallText XX
  refine join_at [5, 10, 13, 14] 13 (by kernel_rfl) fun J e1 => ?_
  try simp only [← e1]
  clear e1
  generalize lpL (Y.ctx (lim' Y)) 11 = lp
  generalize lim' Y = call
  kernel_rfl
theorem iCallParse.p10 (y0 : ByteArray) (y1 : Bool) (y2 : Int) (y3 : List (List D)) (y4 : List (List D)) (y5 : Int) (y6 : ByteArray) (y7 : List (List D)) (y8 : Int) (y9 : List (List D)) (y10 : List (List D)) (y11 : Int) (y12 : ByteArray) :
    iCallParse.P10 y0 y1 y2 y3 y4 y5 y6 y7 y8 y9 y10 y11 y12 =
    bif y1 then
  bif decide (2 < (↑y7.length : Int)) && decide ((y7.getD 2 []).length = 1) then
    bif fitsRow [CK.str] (y7.getD 2 []) 0 && decide (1 ≤ (y7.getD 2 []).length) then
      (inumRead [AV.one (A1.v (Value.string ((y7.getD 2 []).getD 0 D.h).str))] []).bind fun val =>
        bif fitsCells [R1.int IntKind.i64] val.1 && true then
          bif y8 == 2 then
            bif decide (3 < (↑y7.length : Int)) && decide ((y7.getD 3 []).length = 1) then
              bif fitsRow [CK.str] (y7.getD 3 []) 0 && decide (1 ≤ (y7.getD 3 []).length) then
                (idataRead [AV.one (A1.v (Value.string ((y7.getD 3 []).getD 0 D.h).str))] []).bind fun val_1 =>
                  bif fitsCells [R1.str] val_1.1 && true then iCallParse.P13 y0 y2 y3 y4 y5 y6 y8 y9 y10 (val.1.getD 0 TC.d).int (val_1.1.getD 0 TC.d).str else none
              else none
            else none
          else iCallParse.P13 y0 y2 y3 y4 y5 y6 y8 y9 y10 (val.1.getD 0 TC.d).int y12
        else none
    else none
  else none
else iCallParse.P13 y0 y2 y3 y4 y5 y6 y8 y9 y10 y11 y12 := by
  delta iCallParse.P10 inumRead idataRead iCallParse.P13 XX
  refine join_at [5, 10, 13, 14] 10 (by kernel_rfl) fun J e1 => ?_
  try simp only [← e1]
  clear e1
  generalize lpL (Y.ctx (lim' Y)) 11 = lp
  generalize lim' Y = call
  kernel_rfl
theorem iCallParse.p14 (y0 : Bool) (y1 : Int) (y2 : List (List D)) (y3 : List (List D)) (y4 : Int) (y5 : ByteArray) (y6 : Int) (y7 : List (List D)) (y8 : List (List D)) (y9 : Int) (y10 : ByteArray) :
    iCallParse.P14 y0 y1 y2 y3 y4 y5 y6 y7 y8 y9 y10 =
    bif y0 then
  some { cells := [TC.v (Value.int IntKind.i64 0), TC.o Own.deep [], TC.o Own.deep [], TC.v (Value.int IntKind.i64 0), TC.v (Value.string (ByteArray.mk #[])), TC.v (Value.bool false)], objs := [] }
else some { cells := [TC.v (Value.int IntKind.i64 y6), TC.o Own.deep y7, TC.o Own.deep y8, TC.v (Value.int IntKind.i64 y9), TC.v (Value.string y10), TC.v (Value.bool true)], objs := [] } := by
  delta iCallParse.P14 XX
  refine join_at [5, 10, 13, 14] 14 (by kernel_rfl) fun J e1 => ?_
  try simp only [← e1]
  clear e1
  generalize lpL (Y.ctx (lim' Y)) 11 = lp
  generalize lim' Y = call
  kernel_rfl


noncomputable def weqCall.P8 (y0 : Bool) (y1 : Int) (y2 : List (List D)) (y3 : List (List D)) (y4 : Int) (y5 : ByteArray) (y6 : Int) (y7 : List (List D)) (y8 : List (List D)) (y9 : Int) (y10 : ByteArray) : Option Res := evB XX 12 (lpL XX 12) 8 weqCall.c
  (mkG 0 32 [(2, AV.one (A1.p true 2 [] 0)), (3, AV.one (A1.p true 3 [] 0)), (26, AV.one (A1.v (Value.bool y0)))]
    [(2,
        some
          { kind := Kind.box, row := [D.v (Value.int IntKind.i64 y1), D.s y2, D.s y3, D.v (Value.int IntKind.i64 y4), D.v (Value.string y5)], fl := [Own.deep, Own.sh, Own.sh, Own.deep, Own.deep] }),
      (3,
        some
          { kind := Kind.box, row := [D.v (Value.int IntKind.i64 y6), D.s y7, D.s y8, D.v (Value.int IntKind.i64 y9), D.v (Value.string y10)], fl := [Own.deep, Own.sh, Own.sh, Own.deep, Own.deep] })]
    GL)
  (outE XX 12 Tryd.f12)
theorem weqCall.e (a0 : Int) (a1 : List (List D)) (a2 : List (List D)) (a3 : Int) (a4 : ByteArray) (a5 : Int) (a6 : List (List D)) (a7 : List (List D)) (a8 : Int) (a9 : ByteArray) :
    weqCall
  [AV.g [A1.v (Value.int IntKind.i64 a0), A1.s a1, A1.s a2, A1.v (Value.int IntKind.i64 a3), A1.v (Value.string a4)],
    AV.g [A1.v (Value.int IntKind.i64 a5), A1.s a6, A1.s a7, A1.v (Value.int IntKind.i64 a8), A1.v (Value.string a9)]]
  [] =
    bif a0 != a5 then some { cells := [TC.v (Value.bool false)], objs := [] }
else
  (weqStringS [AV.one (A1.s a1), AV.one (A1.s a6)] []).bind fun val =>
    bif fitsCells [R1.bool] val.1 && true then
      bif !(val.1.getD 0 TC.d).bool then some { cells := [TC.v (Value.bool false)], objs := [] }
      else
        (weqStringS [AV.one (A1.s a2), AV.one (A1.s a7)] []).bind fun val =>
          bif fitsCells [R1.bool] val.1 && true then bif !(val.1.getD 0 TC.d).bool then some { cells := [TC.v (Value.bool false)], objs := [] } else weqCall.P8 (a3 != a8) a0 a1 a2 a3 a4 a5 a6 a7 a8 a9
          else none
    else none := by
  refine (weqCall.run _ _ (by kernel_rfl)).trans ?_
  delta weqCall weqStringS weqCall.P8 XX
  refine join_use [8] (by kernel_rfl) fun J e1 => ?_
  try simp only [← e1]
  clear e1
  generalize lpL (Y.ctx (lim' Y)) 12 = lp
  generalize lim' Y = call
  kernel_rfl
theorem weqCall.p8 (y0 : Bool) (y1 : Int) (y2 : List (List D)) (y3 : List (List D)) (y4 : Int) (y5 : ByteArray) (y6 : Int) (y7 : List (List D)) (y8 : List (List D)) (y9 : Int) (y10 : ByteArray) :
    weqCall.P8 y0 y1 y2 y3 y4 y5 y6 y7 y8 y9 y10 =
    bif y0 then some { cells := [TC.v (Value.bool false)], objs := [] }
else bif !y5.toList == y10.toList then some { cells := [TC.v (Value.bool false)], objs := [] } else some { cells := [TC.v (Value.bool true)], objs := [] } := by
  delta weqCall.P8 XX
  refine join_at [8] 8 (by kernel_rfl) fun J e1 => ?_
  try simp only [← e1]
  clear e1
  generalize lpL (Y.ctx (lim' Y)) 12 = lp
  generalize lim' Y = call
  kernel_rfl


theorem wmarkCall.e (a0 : Int) (a1 : List (List D)) (a2 : List (List D)) (a3 : Int) (a4 : ByteArray) (a5 : Int) :
    wmarkCall [AV.g [A1.v (Value.int IntKind.i64 a0), A1.r 0 [] 0, A1.r 0 [] 1, A1.v (Value.int IntKind.i64 a3), A1.v (Value.string a4)], AV.one (A1.v (Value.int IntKind.i64 a5))]
  [{ kind := Kind.virt, row := [D.s a1, D.s a2], fl := [Own.deep, Own.deep] }] =
    (wmarkStringS [AV.one (A1.r 0 [] 0), AV.one (A1.v (Value.int IntKind.i64 a5))] [{ kind := Kind.virt, row := [D.s a1], fl := [Own.deep] }]).bind fun val =>
  bif fitsCells [R1.int IntKind.i64] val.1 && fitsCos [{ ob := { kind := Kind.virt, row := [D.s a1], fl := [Own.deep] }, src := Src.sl 0 [] 0 }] val.2 then
    (wmarkStringS [AV.one (A1.r 0 [] 0), AV.one (A1.v (Value.int IntKind.i64 (val.1.getD 0 TC.d).int))] [{ kind := Kind.virt, row := [D.s a2], fl := [Own.deep] }]).bind fun val_1 =>
      bif fitsCells [R1.int IntKind.i64] val_1.1 && fitsCos [{ ob := { kind := Kind.virt, row := [D.s a2], fl := [Own.deep] }, src := Src.sl 0 [] 1 }] val_1.2 then
        some
          { cells := [TC.v (Value.int IntKind.i64 (val_1.1.getD 0 TC.d).int)],
            objs :=
              [{ kind := Kind.virt,
                  row := [D.s ((val.2.getD 0 { kind := Kind.ro, row := [], fl := [] }).2.getD 0 D.h).es, D.s ((val_1.2.getD 0 { kind := Kind.ro, row := [], fl := [] }).2.getD 0 D.h).es],
                  fl := [Own.deep, Own.deep] }] }
      else none
  else none := by
  refine (wmarkCall.run _ _ (by kernel_rfl)).trans ?_
  delta wmarkCall wmarkStringS XX
  generalize lpL (Y.ctx (lim' Y)) 13 = lp
  generalize lim' Y = call
  kernel_rfl


theorem wheldCall.e (a0 : Int) (a1 : List (List D)) (a2 : List (List D)) (a3 : Int) (a4 : ByteArray) (a5 : Int) :
    wheldCall [AV.g [A1.v (Value.int IntKind.i64 a0), A1.s a1, A1.s a2, A1.v (Value.int IntKind.i64 a3), A1.v (Value.string a4)], AV.one (A1.v (Value.int IntKind.i64 a5))] [] =
    (wheldStringS [AV.one (A1.s a1), AV.one (A1.v (Value.int IntKind.i64 a5))] []).bind fun val =>
  bif fitsCells [R1.int IntKind.i64] val.1 && true then
    bif decide ((val.1.getD 0 TC.d).int < 0) then some { cells := [TC.v (Value.int IntKind.i64 (-1))], objs := [] }
    else
      (wheldStringS [AV.one (A1.s a2), AV.one (A1.v (Value.int IntKind.i64 (val.1.getD 0 TC.d).int))] []).bind fun val =>
        bif fitsCells [R1.int IntKind.i64] val.1 && true then
          bif decide ((val.1.getD 0 TC.d).int < 0) then some { cells := [TC.v (Value.int IntKind.i64 (-1))], objs := [] }
          else some { cells := [TC.v (Value.int IntKind.i64 (val.1.getD 0 TC.d).int)], objs := [] }
        else none
  else none := by
  refine (wheldCall.run _ _ (by kernel_rfl)).trans ?_
  delta wheldCall wheldStringS XX
  generalize lpL (Y.ctx (lim' Y)) 14 = lp
  generalize lim' Y = call
  kernel_rfl


noncomputable def sl1Cut.L4 (y0 : ByteArray) (y1 : Int) (y2 : Int) (y3 : Int) (y4 : List (List D)) : Option (Ex × St) := lpL XX 15 (bodyAt 4 sl1Cut.c)
  (mkG 0 35
    [(0, AV.one (A1.v (Value.string y0))), (1, AV.one (A1.v (Value.int IntKind.u8 y1))), (5, AV.one (A1.r 5 [] 0)), (6, AV.one (A1.v (Value.int IntKind.i64 y2))),
      (7, AV.one (A1.v (Value.int IntKind.i64 y3)))]
    [(5, some { kind := Kind.virt, row := [D.s y4], fl := [Own.deep] })] GL)
noncomputable def sl1Cut.A4 : Ex × St → Option Res := fun r => evA XX 15 (lpL XX 15) 4 sl1Cut.c r.fst r.snd (outE XX 15 Tryd.f15)
noncomputable def sl1Cut.x4 (y0 : ByteArray) (y1 : Int) (y2 : List (List D)) : Ex × St := (Ex.exit 0,
  mkG 0 35 [(0, AV.one (A1.v (Value.string y0))), (5, AV.one (A1.r 5 [] 0)), (6, AV.one (A1.v (Value.int IntKind.i64 y1)))] [(5, some { kind := Kind.virt, row := [D.s y2], fl := [Own.deep] })] GL)
theorem sl1Cut.e (a0 : ByteArray) (a1 : Int) :
    sl1Cut [AV.one (A1.v (Value.string a0)), AV.one (A1.v (Value.int IntKind.u8 a1))] [] =
    (sl1Cut.L4 a0 a1 0 0 []).bind sl1Cut.A4 := by
  refine (sl1Cut.run _ _ (by kernel_rfl)).trans ?_
  delta sl1Cut sl1Cut.L4 sl1Cut.A4 XX
  generalize lpL (Y.ctx (lim' Y)) 15 = lp
  generalize lim' Y = call
  kernel_rfl
theorem sl1Cut.s4 (y0 : ByteArray) (y1 : Int) (y2 : Int) (y3 : Int) (y4 : List (List D)) :
    sl1Cut.L4 y0 y1 y2 y3 y4 =
    bif decide (y3 < (↑y0.size : Int)) then
  bif decide (0 ≤ y3) && decide (y3 < (↑y0.size : Int)) then
    bif byteAt y0 y3.toNat == y1 then
      bif decide (0 ≤ y2) && decide (y2 ≤ y3) && decide (y3 ≤ (↑y0.size : Int)) then
        bif rowsLen 1 y4 && true && true && true && decide ((y4.length + 1) * 17 ≤ 70368744177664) then
          sl1Cut.L4 y0 y1 (IntKind.i64.wrap (y3 + 1)) (IntKind.i64.wrap (y3 + 1)) (y4 ++ [[D.v (Value.string (y0.extract y2.toNat y3.toNat))]])
        else none
      else none
    else sl1Cut.L4 y0 y1 y2 (IntKind.i64.wrap (y3 + 1)) y4
  else none
else some (sl1Cut.x4 y0 y2 y4) := by
  refine (lpL_eq (Y := Y) (c := lim' Y) (fn := 15) (rid := 4) (b := bodyAt 4 sl1Cut.c) (by kernel_rfl) _).trans ?_
  delta sl1Cut.L4 sl1Cut.x4 XX
  generalize lpL (Y.ctx (lim' Y)) 15 = lp
  generalize lim' Y = call
  kernel_rfl
theorem sl1Cut.a4x4 (y0 : ByteArray) (y1 : Int) (y2 : List (List D)) :
    sl1Cut.A4 (sl1Cut.x4 y0 y1 y2) =
    bif decide (0 ≤ y1) && decide (y1 ≤ (↑y0.size : Int)) && decide ((↑y0.size : Int) ≤ (↑y0.size : Int)) then
  bif rowsLen 1 y2 && true && true && true && decide ((y2.length + 1) * 17 ≤ 70368744177664) then
    some { cells := [TC.o Own.deep (y2 ++ [[D.v (Value.string (y0.extract y1.toNat (↑y0.size : Int).toNat))]])], objs := [] }
  else none
else none := by
  delta sl1Cut.A4 sl1Cut.x4 XX
  generalize lpL (Y.ctx (lim' Y)) 15 = lp
  generalize lim' Y = call
  kernel_rfl


noncomputable def sl22Num.P2 (y0 : ByteArray) (y1 : Bool) : Option Res := evB XX 16 (lpL XX 16) 2 sl22Num.c (mkG 0 44 [(0, AV.one (A1.v (Value.string y0))), (18, AV.one (A1.v (Value.bool y1)))] [] GL) (outE XX 16 Tryd.f16)
noncomputable def sl22Num.P3 (y0 : ByteArray) : Option Res := evB XX 16 (lpL XX 16) 3 sl22Num.c (mkG 0 44 [(0, AV.one (A1.v (Value.string y0)))] [] GL) (outE XX 16 Tryd.f16)
noncomputable def sl22Num.L5 (y0 : ByteArray) (y1 : Int) (y2 : Int) : Option (Ex × St) := lpL XX 16 (bodyAt 5 sl22Num.c) (mkG 0 44 [(0, AV.one (A1.v (Value.string y0))), (3, AV.one (A1.v (Value.int IntKind.i64 y1))), (4, AV.one (A1.v (Value.int IntKind.i64 y2)))] [] GL)
noncomputable def sl22Num.A5 : Ex × St → Option Res := fun r => evA XX 16 (lpL XX 16) 5 sl22Num.c r.fst r.snd (outE XX 16 Tryd.f16)
noncomputable def sl22Num.P8 (y0 : ByteArray) (y1 : Int) (y2 : Int) (y3 : Bool) : Option (Ex × St) := evB XX 16 (lpL XX 16) 8 (bodyAt 5 sl22Num.c)
  (mkG 0 44 [(0, AV.one (A1.v (Value.string y0))), (3, AV.one (A1.v (Value.int IntKind.i64 y1))), (4, AV.one (A1.v (Value.int IntKind.i64 y2))), (34, AV.one (A1.v (Value.bool y3)))] [] GL)
  (backL (lpL XX 16) (bodyAt 5 sl22Num.c) (XX.live 16 5))
noncomputable def sl22Num.x5 (y0 : Int) : Ex × St := (Ex.exit 0, mkG 0 44 [(3, AV.one (A1.v (Value.int IntKind.i64 y0)))] [] GL)
noncomputable def sl22Num.q5 (y0 : Int) (y1 : Int) : Ex × St := (Ex.ret, mkG 0 44 [(2, AV.one (A1.v (Value.int IntKind.i64 y0))), (3, AV.one (A1.v (Value.int IntKind.i64 y1)))] [] GL)
noncomputable def sl22Num.P9 (y0 : ByteArray) (y1 : Int) (y2 : Int) : Option (Ex × St) := evB XX 16 (lpL XX 16) 9 (bodyAt 5 sl22Num.c) (mkG 0 44 [(0, AV.one (A1.v (Value.string y0))), (3, AV.one (A1.v (Value.int IntKind.i64 y1))), (4, AV.one (A1.v (Value.int IntKind.i64 y2)))] [] GL)
  (backL (lpL XX 16) (bodyAt 5 sl22Num.c) (XX.live 16 5))
theorem sl22Num.e (a0 : ByteArray) :
    sl22Num [AV.one (A1.v (Value.string a0))] [] =
    (sl21In [AV.one (A1.v (Value.int IntKind.i64 (↑a0.size : Int))), AV.one (A1.v (Value.int IntKind.i64 1)), AV.one (A1.v (Value.int IntKind.i64 5))] []).bind fun val =>
  bif fitsCells [R1.bool] val.1 && true then
    bif !(val.1.getD 0 TC.d).bool then sl22Num.P2 a0 true
    else bif decide ((↑a0.size : Int) > 1) then bif decide (0 < (↑a0.size : Int)) then sl22Num.P2 a0 (byteAt a0 0 == 48) else none else sl22Num.P2 a0 false
  else none := by
  refine (sl22Num.run _ _ (by kernel_rfl)).trans ?_
  delta sl22Num sl21In sl22Num.P2 XX
  refine join_use [2, 3] (by kernel_rfl) fun J e1 => ?_
  try simp only [← e1]
  clear e1
  generalize lpL (Y.ctx (lim' Y)) 16 = lp
  generalize lim' Y = call
  kernel_rfl
theorem sl22Num.p2 (y0 : ByteArray) (y1 : Bool) :
    sl22Num.P2 y0 y1 =
    bif y1 then some { cells := [TC.v (Value.int IntKind.i64 (-1))], objs := [] } else sl22Num.P3 y0 := by
  delta sl22Num.P2 sl22Num.P3 XX
  refine join_at [2, 3] 2 (by kernel_rfl) fun J e1 => ?_
  try simp only [← e1]
  clear e1
  generalize lpL (Y.ctx (lim' Y)) 16 = lp
  generalize lim' Y = call
  kernel_rfl
theorem sl22Num.p3 (y0 : ByteArray) :
    sl22Num.P3 y0 =
    (sl22Num.L5 y0 0 0).bind sl22Num.A5 := by
  delta sl22Num.P3 sl22Num.L5 sl22Num.A5 XX
  refine join_at [2, 3] 3 (by kernel_rfl) fun J e1 => ?_
  have eA := evA_J [2, 3] 5 (by kernel_rfl) e1
  try simp only [eA]
  clear eA
  try simp only [← e1]
  clear e1
  show _ = _
  generalize lpL (Y.ctx (lim' Y)) 16 = lp
  generalize lim' Y = call
  kernel_rfl
theorem sl22Num.s5 (y0 : ByteArray) (y1 : Int) (y2 : Int) :
    sl22Num.L5 y0 y1 y2 =
    bif decide (y2 < (↑y0.size : Int)) then
  bif decide (0 ≤ y2) && decide (y2 < (↑y0.size : Int)) then
    bif decide (byteAt y0 y2.toNat < 48) then sl22Num.P8 y0 y1 y2 true else bif decide (0 ≤ y2) && decide (y2 < (↑y0.size : Int)) then sl22Num.P8 y0 y1 y2 (decide (byteAt y0 y2.toNat > 57)) else none
  else none
else some (sl22Num.x5 y1) := by
  refine (lpL_eq (Y := Y) (c := lim' Y) (fn := 16) (rid := 5) (b := bodyAt 5 sl22Num.c) (by kernel_rfl) _).trans ?_
  delta sl22Num.L5 sl22Num.P8 sl22Num.x5 XX
  refine join_use [8, 9] (by kernel_rfl) fun J e1 => ?_
  try simp only [← e1]
  clear e1
  generalize lpL (Y.ctx (lim' Y)) 16 = lp
  generalize lim' Y = call
  kernel_rfl
theorem sl22Num.p8 (y0 : ByteArray) (y1 : Int) (y2 : Int) (y3 : Bool) :
    sl22Num.P8 y0 y1 y2 y3 =
    bif y3 then some (sl22Num.q5 (-1) y1) else sl22Num.P9 y0 y1 y2 := by
  delta sl22Num.P8 sl22Num.q5 sl22Num.P9 XX
  refine join_at [8, 9] 8 (by kernel_rfl) fun J e1 => ?_
  try simp only [← e1]
  clear e1
  generalize lpL (Y.ctx (lim' Y)) 16 = lp
  generalize lim' Y = call
  kernel_rfl
theorem sl22Num.a5x5 (y0 : Int) :
    sl22Num.A5 (sl22Num.x5 y0) =
    some { cells := [TC.v (Value.int IntKind.i64 y0)], objs := [] } := by
  delta sl22Num.A5 sl22Num.x5 XX
  refine join_behind [2, 3] 5 (by kernel_rfl) fun J e1 => ?_
  have eA := evA_J [2, 3] 5 (by kernel_rfl) e1
  try simp only [eA]
  clear eA
  try simp only [← e1]
  clear e1
  show _ = _
  generalize lpL (Y.ctx (lim' Y)) 16 = lp
  generalize lim' Y = call
  kernel_rfl
theorem sl22Num.a5q5 (y0 : Int) (y1 : Int) :
    sl22Num.A5 (sl22Num.q5 y0 y1) =
    some { cells := [TC.v (Value.int IntKind.i64 y0)], objs := [] } := by
  delta sl22Num.A5 sl22Num.q5 XX
  refine join_behind [2, 3] 5 (by kernel_rfl) fun J e1 => ?_
  have eA := evA_J [2, 3] 5 (by kernel_rfl) e1
  try simp only [eA]
  clear eA
  try simp only [← e1]
  clear e1
  show _ = _
  generalize lpL (Y.ctx (lim' Y)) 16 = lp
  generalize lim' Y = call
  kernel_rfl
theorem sl22Num.p9 (y0 : ByteArray) (y1 : Int) (y2 : Int) :
    sl22Num.P9 y0 y1 y2 =
    bif decide (0 ≤ y2) && decide (y2 < (↑y0.size : Int)) then
  sl22Num.L5 y0 (IntKind.i64.wrap (IntKind.i64.wrap (y1 * 10) + IntKind.i64.wrap (IntKind.u8.wrap (byteAt y0 y2.toNat - 48)))) (IntKind.i64.wrap (y2 + 1))
else none := by
  delta sl22Num.P9 sl22Num.L5 XX
  refine join_at [8, 9] 9 (by kernel_rfl) fun J e1 => ?_
  try simp only [← e1]
  clear e1
  generalize lpL (Y.ctx (lim' Y)) 16 = lp
  generalize lim' Y = call
  kernel_rfl


theorem inumRead.e (a0 : ByteArray) :
    inumRead [AV.one (A1.v (Value.string a0))] [] =
    (strconv_Atoi [AV.one (A1.v (Value.string a0))] []).bind fun val =>
  bif fitsCells [R1.int IntKind.i64, R1.any] val.1 && true then some { cells := [TC.v (Value.int IntKind.i64 (val.1.getD 0 TC.d).int)], objs := [] } else none := by
  refine (inumRead.run _ _ (by kernel_rfl)).trans ?_
  delta inumRead strconv_Atoi XX
  generalize lpL (Y.ctx (lim' Y)) 22 = lp
  generalize lim' Y = call
  kernel_rfl


theorem ipathRead.e (a0 : ByteArray) :
    ipathRead [AV.one (A1.v (Value.string a0))] [] =
    (strings_TrimPrefix [AV.one (A1.v (Value.string a0)), AV.one (A1.v (Value.string (ByteArray.mk #[47])))] []).bind fun val =>
  bif fitsCells [R1.str] val.1 && true then
    bif (val.1.getD 0 TC.d).str.toList == [] then some { cells := [TC.o Own.deep []], objs := [] }
    else
      (strings_Split [AV.one (A1.v (Value.string (val.1.getD 0 TC.d).str)), AV.one (A1.v (Value.string (ByteArray.mk #[47])))] []).bind fun val =>
        bif fitsCells [R1.own Own.deep] val.1 && true then some { cells := [TC.o Own.deep (val.1.getD 0 TC.d).es], objs := [] } else none
  else none := by
  refine (ipathRead.run _ _ (by kernel_rfl)).trans ?_
  delta ipathRead strings_TrimPrefix strings_Split XX
  generalize lpL (Y.ctx (lim' Y)) 23 = lp
  generalize lim' Y = call
  kernel_rfl


theorem sl42Words.e :
    sl42Words [] [] =
    some
  {
    cells :=
      [TC.o Own.deep
          [[D.v (Value.string (ByteArray.mk #[]))], [D.v (Value.string (ByteArray.mk #[109, 107, 100, 105, 114]))],
            [D.v (Value.string (ByteArray.mk #[119, 114, 105, 116, 101]))],
            [D.v (Value.string (ByteArray.mk #[116, 114, 117, 110, 99, 97, 116, 101]))],
            [D.v (Value.string (ByteArray.mk #[114, 101, 109, 111, 118, 101]))],
            [D.v (Value.string (ByteArray.mk #[114, 101, 110, 97, 109, 101]))],
            [D.v (Value.string (ByteArray.mk #[99, 104, 109, 111, 100]))]]],
    objs := [] } := by
  refine (sl42Words.run _ _ (by kernel_rfl)).trans ?_
  delta sl42Words XX
  generalize lpL (Y.ctx (lim' Y)) 28 = lp
  generalize lim' Y = call
  kernel_rfl


noncomputable def sl41PathOf.P4 (y0 : ByteArray) (y1 : Bool) : Option Res := evB XX 29 (lpL XX 29) 4 sl41PathOf.c (mkG 0 22 [(0, AV.one (A1.v (Value.string y0))), (14, AV.one (A1.v (Value.bool y1)))] [] GL) (outE XX 29 Tryd.f29)
noncomputable def sl41PathOf.P5 (y0 : ByteArray) : Option Res := evB XX 29 (lpL XX 29) 5 sl41PathOf.c (mkG 0 22 [(0, AV.one (A1.v (Value.string y0)))] [] GL) (outE XX 29 Tryd.f29)
theorem sl41PathOf.e (a0 : ByteArray) :
    sl41PathOf [AV.one (A1.v (Value.string a0))] [] =
    bif a0.toList == [(ByteArray.mk #[47]).get! 0] then some { cells := [TC.s [], TC.v (Value.bool true)], objs := [] }
else bif a0.toList == [] then sl41PathOf.P4 a0 true else bif decide (0 < (↑a0.size : Int)) then sl41PathOf.P4 a0 (byteAt a0 0 != 47) else none := by
  refine (sl41PathOf.run _ _ (by kernel_rfl)).trans ?_
  delta sl41PathOf sl41PathOf.P4 XX
  refine join_use [4, 5] (by kernel_rfl) fun J e1 => ?_
  try simp only [← e1]
  clear e1
  generalize lpL (Y.ctx (lim' Y)) 29 = lp
  generalize lim' Y = call
  kernel_rfl
theorem sl41PathOf.p4 (y0 : ByteArray) (y1 : Bool) :
    sl41PathOf.P4 y0 y1 =
    bif y1 then some { cells := [TC.s [], TC.v (Value.bool false)], objs := [] } else sl41PathOf.P5 y0 := by
  delta sl41PathOf.P4 sl41PathOf.P5 XX
  refine join_at [4, 5] 4 (by kernel_rfl) fun J e1 => ?_
  try simp only [← e1]
  clear e1
  generalize lpL (Y.ctx (lim' Y)) 29 = lp
  generalize lim' Y = call
  kernel_rfl
theorem sl41PathOf.p5 (y0 : ByteArray) :
    sl41PathOf.P5 y0 =
    (sl1Cut [AV.one (A1.v (Value.string y0)), AV.one (A1.v (Value.int IntKind.u8 47))] []).bind fun val =>
  bif fitsCells [R1.own Own.deep] val.1 && true then
    bif
        decide ((some 1).getD 0 ≤ (↑(val.1.getD 0 TC.d).es.length : Int)) && decide ((↑(val.1.getD 0 TC.d).es.length : Int) ≤ (↑(val.1.getD 0 TC.d).es.length : Int)) &&
          (false || decide (((val.1.getD 0 TC.d).es.getD 0 []).length = 1)) then
      (sl2PathOk [AV.one (A1.s (List.drop 1 (List.take (↑(val.1.getD 0 TC.d).es.length : Int).toNat (val.1.getD 0 TC.d).es)))] []).bind fun val_1 =>
        bif fitsCells [R1.bool] val_1.1 && true then
          some { cells := [TC.s (List.drop 1 (List.take (↑(val.1.getD 0 TC.d).es.length : Int).toNat (val.1.getD 0 TC.d).es)), TC.v (Value.bool (val_1.1.getD 0 TC.d).bool)], objs := [] }
        else none
    else none
  else none := by
  delta sl41PathOf.P5 sl1Cut sl2PathOk XX
  refine join_at [4, 5] 5 (by kernel_rfl) fun J e1 => ?_
  try simp only [← e1]
  clear e1
  generalize lpL (Y.ctx (lim' Y)) 29 = lp
  generalize lim' Y = call
  kernel_rfl


noncomputable def sl1Bytes.P5 (y0 : ByteArray) (y1 : Bool) (y2 : List (List D)) : Option Res := evB XX 30 (lpL XX 30) 5 sl1Bytes.c
  (mkG 0 50 [(0, AV.one (A1.v (Value.string y0))), (4, AV.one (A1.r 4 [] 0)), (18, AV.one (A1.v (Value.bool y1)))] [(4, some { kind := Kind.virt, row := [D.s y2], fl := [Own.deep] })] GL)
  (outE XX 30 Tryd.f30)
noncomputable def sl1Bytes.P6 (y0 : ByteArray) (y1 : List (List D)) : Option Res := evB XX 30 (lpL XX 30) 6 sl1Bytes.c (mkG 0 50 [(0, AV.one (A1.v (Value.string y0))), (4, AV.one (A1.r 4 [] 0))] [(4, some { kind := Kind.virt, row := [D.s y1], fl := [Own.deep] })] GL)
  (outE XX 30 Tryd.f30)
noncomputable def sl1Bytes.L7 (y0 : ByteArray) (y1 : Int) (y2 : List (List D)) : Option (Ex × St) := lpL XX 30 (bodyAt 7 sl1Bytes.c)
  (mkG 0 50 [(0, AV.one (A1.v (Value.string y0))), (4, AV.one (A1.r 4 [] 0)), (5, AV.one (A1.v (Value.int IntKind.i64 y1)))] [(4, some { kind := Kind.virt, row := [D.s y2], fl := [Own.deep] })] GL)
noncomputable def sl1Bytes.A7 : Ex × St → Option Res := fun r => evA XX 30 (lpL XX 30) 7 sl1Bytes.c r.fst r.snd (outE XX 30 Tryd.f30)
noncomputable def sl1Bytes.P12 (y0 : ByteArray) (y1 : Int) (y2 : Int) (y3 : Int) (y4 : Bool) (y5 : List (List D)) : Option (Ex × St) := evB XX 30 (lpL XX 30) 12 (bodyAt 7 sl1Bytes.c)
  (mkG 0 50
    [(0, AV.one (A1.v (Value.string y0))), (4, AV.one (A1.r 4 [] 0)), (5, AV.one (A1.v (Value.int IntKind.i64 y1))), (6, AV.one (A1.v (Value.int IntKind.i64 y2))),
      (7, AV.one (A1.v (Value.int IntKind.i64 y3))), (39, AV.one (A1.v (Value.bool y4)))]
    [(4, some { kind := Kind.virt, row := [D.s y5], fl := [Own.deep] })] GL)
  (backL (lpL XX 30) (bodyAt 7 sl1Bytes.c) (XX.live 30 7))
noncomputable def sl1Bytes.x7 (y0 : List (List D)) : Ex × St := (Ex.exit 0, mkG 0 50 [(4, AV.one (A1.r 4 [] 0))] [(4, some { kind := Kind.virt, row := [D.s y0], fl := [Own.deep] })] GL)
noncomputable def sl1Bytes.q7 (y0 : ByteArray) (y1 : Bool) (y2 : List (List D)) : Ex × St := (Ex.ret, mkG 0 50 [(2, AV.one (A1.v (Value.string y0))), (3, AV.one (A1.v (Value.bool y1))), (4, AV.one (A1.r 4 [] 0))] [(4, some { kind := Kind.virt, row := [D.s y2], fl := [Own.deep] })] GL)
noncomputable def sl1Bytes.P13 (y0 : ByteArray) (y1 : Int) (y2 : Int) (y3 : Int) (y4 : List (List D)) : Option (Ex × St) := evB XX 30 (lpL XX 30) 13 (bodyAt 7 sl1Bytes.c)
  (mkG 0 50
    [(0, AV.one (A1.v (Value.string y0))), (4, AV.one (A1.r 4 [] 0)), (5, AV.one (A1.v (Value.int IntKind.i64 y1))), (6, AV.one (A1.v (Value.int IntKind.i64 y2))),
      (7, AV.one (A1.v (Value.int IntKind.i64 y3)))]
    [(4, some { kind := Kind.virt, row := [D.s y4], fl := [Own.deep] })] GL)
  (backL (lpL XX 30) (bodyAt 7 sl1Bytes.c) (XX.live 30 7))
theorem sl1Bytes.e (a0 : ByteArray) :
    sl1Bytes [AV.one (A1.v (Value.string a0))] [] =
    bif a0.toList == [(ByteArray.mk #[45]).get! 0] then some { cells := [TC.v (Value.string (ByteArray.mk #[])), TC.v (Value.bool true)], objs := [] }
else bif (↑a0.size : Int).tmod 2 == 1 then sl1Bytes.P5 a0 true [] else sl1Bytes.P5 a0 (a0.toList == []) [] := by
  refine (sl1Bytes.run _ _ (by kernel_rfl)).trans ?_
  delta sl1Bytes sl1Bytes.P5 XX
  refine join_use [5, 6] (by kernel_rfl) fun J e1 => ?_
  try simp only [← e1]
  clear e1
  generalize lpL (Y.ctx (lim' Y)) 30 = lp
  generalize lim' Y = call
  kernel_rfl
theorem sl1Bytes.p5 (y0 : ByteArray) (y1 : Bool) (y2 : List (List D)) :
    sl1Bytes.P5 y0 y1 y2 =
    bif y1 then some { cells := [TC.v (Value.string (ByteArray.mk #[])), TC.v (Value.bool false)], objs := [] } else sl1Bytes.P6 y0 y2 := by
  delta sl1Bytes.P5 sl1Bytes.P6 XX
  refine join_at [5, 6] 5 (by kernel_rfl) fun J e1 => ?_
  try simp only [← e1]
  clear e1
  generalize lpL (Y.ctx (lim' Y)) 30 = lp
  generalize lim' Y = call
  kernel_rfl
theorem sl1Bytes.p6 (y0 : ByteArray) (y1 : List (List D)) :
    sl1Bytes.P6 y0 y1 =
    (sl1Bytes.L7 y0 0 y1).bind sl1Bytes.A7 := by
  delta sl1Bytes.P6 sl1Bytes.L7 sl1Bytes.A7 XX
  refine join_at [5, 6] 6 (by kernel_rfl) fun J e1 => ?_
  have eA := evA_J [5, 6] 7 (by kernel_rfl) e1
  try simp only [eA]
  clear eA
  try simp only [← e1]
  clear e1
  show _ = _
  generalize lpL (Y.ctx (lim' Y)) 30 = lp
  generalize lim' Y = call
  kernel_rfl
theorem sl1Bytes.s7 (y0 : ByteArray) (y1 : Int) (y2 : List (List D)) :
    sl1Bytes.L7 y0 y1 y2 =
    bif decide (y1 < (↑y0.size : Int)) then
  bif decide (0 ≤ y1) && decide (y1 < (↑y0.size : Int)) then
    (sl1Digit [AV.one (A1.v (Value.int IntKind.u8 (byteAt y0 y1.toNat)))] []).bind fun val =>
      bif fitsCells [R1.int IntKind.i64] val.1 && true then
        bif decide (0 ≤ IntKind.i64.wrap (y1 + 1)) && decide (IntKind.i64.wrap (y1 + 1) < (↑y0.size : Int)) then
          (sl1Digit [AV.one (A1.v (Value.int IntKind.u8 (byteAt y0 (IntKind.i64.wrap (y1 + 1)).toNat)))] []).bind fun val_1 =>
            bif fitsCells [R1.int IntKind.i64] val_1.1 && true then
              bif decide ((val.1.getD 0 TC.d).int > 15) then sl1Bytes.P12 y0 y1 (val.1.getD 0 TC.d).int (val_1.1.getD 0 TC.d).int true y2
              else sl1Bytes.P12 y0 y1 (val.1.getD 0 TC.d).int (val_1.1.getD 0 TC.d).int (decide ((val_1.1.getD 0 TC.d).int > 15)) y2
            else none
        else none
      else none
  else none
else some (sl1Bytes.x7 y2) := by
  refine (lpL_eq (Y := Y) (c := lim' Y) (fn := 30) (rid := 7) (b := bodyAt 7 sl1Bytes.c) (by kernel_rfl) _).trans ?_
  delta sl1Bytes.L7 sl1Digit sl1Bytes.P12 sl1Bytes.x7 XX
  refine join_use [12, 13] (by kernel_rfl) fun J e1 => ?_
  try simp only [← e1]
  clear e1
  generalize lpL (Y.ctx (lim' Y)) 30 = lp
  generalize lim' Y = call
  kernel_rfl
theorem sl1Bytes.p12 (y0 : ByteArray) (y1 : Int) (y2 : Int) (y3 : Int) (y4 : Bool) (y5 : List (List D)) :
    sl1Bytes.P12 y0 y1 y2 y3 y4 y5 =
    bif y4 then some (sl1Bytes.q7 (ByteArray.mk #[]) false y5) else sl1Bytes.P13 y0 y1 y2 y3 y5 := by
  delta sl1Bytes.P12 sl1Bytes.q7 sl1Bytes.P13 XX
  refine join_at [12, 13] 12 (by kernel_rfl) fun J e1 => ?_
  try simp only [← e1]
  clear e1
  generalize lpL (Y.ctx (lim' Y)) 30 = lp
  generalize lim' Y = call
  kernel_rfl
theorem sl1Bytes.a7x7 (y0 : List (List D)) :
    sl1Bytes.A7 (sl1Bytes.x7 y0) =
    bif bytesB y0 then some { cells := [TC.v (Value.string (strOf y0)), TC.v (Value.bool true)], objs := [] } else none := by
  delta sl1Bytes.A7 sl1Bytes.x7 XX
  refine join_behind [5, 6] 7 (by kernel_rfl) fun J e1 => ?_
  have eA := evA_J [5, 6] 7 (by kernel_rfl) e1
  try simp only [eA]
  clear eA
  try simp only [← e1]
  clear e1
  show _ = _
  generalize lpL (Y.ctx (lim' Y)) 30 = lp
  generalize lim' Y = call
  kernel_rfl
theorem sl1Bytes.a7q7 (y0 : ByteArray) (y1 : Bool) (y2 : List (List D)) :
    sl1Bytes.A7 (sl1Bytes.q7 y0 y1 y2) =
    some { cells := [TC.v (Value.string y0), TC.v (Value.bool y1)], objs := [] } := by
  delta sl1Bytes.A7 sl1Bytes.q7 XX
  refine join_behind [5, 6] 7 (by kernel_rfl) fun J e1 => ?_
  have eA := evA_J [5, 6] 7 (by kernel_rfl) e1
  try simp only [eA]
  clear eA
  try simp only [← e1]
  clear e1
  show _ = _
  generalize lpL (Y.ctx (lim' Y)) 30 = lp
  generalize lim' Y = call
  kernel_rfl
theorem sl1Bytes.p13 (y0 : ByteArray) (y1 : Int) (y2 : Int) (y3 : Int) (y4 : List (List D)) :
    sl1Bytes.P13 y0 y1 y2 y3 y4 =
    bif rowsLen 1 y4 && true && true && true && decide ((y4.length + 1) * 2 ≤ 70368744177664) then
  sl1Bytes.L7 y0 (IntKind.i64.wrap (y1 + 2)) (y4 ++ [[D.v (Value.int IntKind.u8 (IntKind.u8.wrap (IntKind.i64.wrap (IntKind.i64.wrap (16 * y2) + y3))))]])
else none := by
  delta sl1Bytes.P13 sl1Bytes.L7 XX
  refine join_at [12, 13] 13 (by kernel_rfl) fun J e1 => ?_
  try simp only [← e1]
  clear e1
  generalize lpL (Y.ctx (lim' Y)) 30 = lp
  generalize lim' Y = call
  kernel_rfl


noncomputable def sCallText.P2 (y0 : Bool) (y1 : Int) (y2 : List (List D)) (y3 : List (List D)) (y4 : Int) (y5 : ByteArray) : Option Res := evB XX 31 (lpL XX 31) 2 sCallText.c
  (mkG 0 62 [(1, AV.one (A1.p true 1 [] 0)), (17, AV.one (A1.v (Value.bool y0)))]
    [(1,
        some
          { kind := Kind.box, row := [D.v (Value.int IntKind.i64 y1), D.s y2, D.s y3, D.v (Value.int IntKind.i64 y4), D.v (Value.string y5)], fl := [Own.deep, Own.sh, Own.sh, Own.deep, Own.deep] })]
    GL)
  (outE XX 31 Tryd.f31)
noncomputable def sCallText.P3 (y0 : Int) (y1 : List (List D)) (y2 : List (List D)) (y3 : Int) (y4 : ByteArray) : Option Res := evB XX 31 (lpL XX 31) 3 sCallText.c
  (mkG 0 62 [(1, AV.one (A1.p true 1 [] 0))]
    [(1,
        some
          { kind := Kind.box, row := [D.v (Value.int IntKind.i64 y0), D.s y1, D.s y2, D.v (Value.int IntKind.i64 y3), D.v (Value.string y4)], fl := [Own.deep, Own.sh, Own.sh, Own.deep, Own.deep] })]
    GL)
  (outE XX 31 Tryd.f31)
noncomputable def sCallText.P8 (y0 : ByteArray) (y1 : Int) (y2 : Bool) (y3 : Int) (y4 : List (List D)) (y5 : List (List D)) (y6 : Int) (y7 : ByteArray) : Option Res := evB XX 31 (lpL XX 31) 8 sCallText.c
  (mkG 0 62 [(1, AV.one (A1.p true 1 [] 0)), (3, AV.one (A1.v (Value.string y0))), (29, AV.one (A1.v (Value.int IntKind.i64 y1))), (30, AV.one (A1.v (Value.bool y2)))]
    [(1,
        some
          { kind := Kind.box, row := [D.v (Value.int IntKind.i64 y3), D.s y4, D.s y5, D.v (Value.int IntKind.i64 y6), D.v (Value.string y7)], fl := [Own.deep, Own.sh, Own.sh, Own.deep, Own.deep] })]
    GL)
  (outE XX 31 Tryd.f31)
theorem sCallText.e (a0 : Int) (a1 : List (List D)) (a2 : List (List D)) (a3 : Int) (a4 : ByteArray) :
    sCallText [AV.g [A1.v (Value.int IntKind.i64 a0), A1.s a1, A1.s a2, A1.v (Value.int IntKind.i64 a3), A1.v (Value.string a4)]] [] =
    (sl2CallOk [AV.g [A1.v (Value.int IntKind.i64 a0), A1.s a1, A1.s a2, A1.v (Value.int IntKind.i64 a3), A1.v (Value.string a4)]] []).bind fun val =>
  bif fitsCells [R1.bool] val.1 && true then
    bif !(val.1.getD 0 TC.d).bool then sCallText.P2 true a0 a1 a2 a3 a4 else bif a0 == 2 then sCallText.P2 (decide ((↑a4.size : Int) > 24)) a0 a1 a2 a3 a4 else sCallText.P2 false a0 a1 a2 a3 a4
  else none := by
  refine (sCallText.run _ _ (by kernel_rfl)).trans ?_
  delta sCallText sl2CallOk sCallText.P2 XX
  refine join_use [2, 3, 8] (by kernel_rfl) fun J e1 => ?_
  try simp only [← e1]
  clear e1
  generalize lpL (Y.ctx (lim' Y)) 31 = lp
  generalize lim' Y = call
  kernel_rfl
theorem sCallText.p2 (y0 : Bool) (y1 : Int) (y2 : List (List D)) (y3 : List (List D)) (y4 : Int) (y5 : ByteArray) :
    sCallText.P2 y0 y1 y2 y3 y4 y5 =
    bif y0 then some { cells := [TC.v (Value.string (ByteArray.mk #[]))], objs := [] } else sCallText.P3 y1 y2 y3 y4 y5 := by
  delta sCallText.P2 sCallText.P3 XX
  refine join_at [2, 3, 8] 2 (by kernel_rfl) fun J e1 => ?_
  try simp only [← e1]
  clear e1
  generalize lpL (Y.ctx (lim' Y)) 31 = lp
  generalize lim' Y = call
  kernel_rfl
theorem sCallText.p3 (y0 : Int) (y1 : List (List D)) (y2 : List (List D)) (y3 : Int) (y4 : ByteArray) :
    sCallText.P3 y0 y1 y2 y3 y4 =
    (sl42Words [] []).bind fun val =>
  bif fitsCells [R1.own Own.deep] val.1 && true then
    bif decide (0 ≤ y0) && decide (y0 < (↑(val.1.getD 0 TC.d).es.length : Int)) && decide (((val.1.getD 0 TC.d).es.getD y0.toNat []).length = 1) then
      bif fitsRow [CK.str] ((val.1.getD 0 TC.d).es.getD y0.toNat []) 0 && decide (1 ≤ ((val.1.getD 0 TC.d).es.getD y0.toNat []).length) then
        bif decide ((((val.1.getD 0 TC.d).es.getD y0.toNat []).getD 0 D.h).str.size + 1 ≤ 70368744177664) then
          (sl3Name [AV.one (A1.s y1)] []).bind fun val_1 =>
            bif fitsCells [R1.str] val_1.1 && true then
              bif decide (((((val.1.getD 0 TC.d).es.getD y0.toNat []).getD 0 D.h).str ++ (ByteArray.mk #[32])).size + (val_1.1.getD 0 TC.d).str.size ≤ 70368744177664) then
                bif y0 == 1 then sCallText.P8 ((((val.1.getD 0 TC.d).es.getD y0.toNat []).getD 0 D.h).str ++ (ByteArray.mk #[32]) ++ (val_1.1.getD 0 TC.d).str) y0 (y0 == 1) y0 y1 y2 y3 y4
                else
                  bif y0 == 6 then sCallText.P8 ((((val.1.getD 0 TC.d).es.getD y0.toNat []).getD 0 D.h).str ++ (ByteArray.mk #[32]) ++ (val_1.1.getD 0 TC.d).str) y0 (y0 == 6) y0 y1 y2 y3 y4
                  else sCallText.P8 ((((val.1.getD 0 TC.d).es.getD y0.toNat []).getD 0 D.h).str ++ (ByteArray.mk #[32]) ++ (val_1.1.getD 0 TC.d).str) y0 (y0 == 3) y0 y1 y2 y3 y4
              else none
            else none
        else none
      else none
    else none
  else none := by
  delta sCallText.P3 sl42Words sl3Name sCallText.P8 XX
  refine join_at [2, 3, 8] 3 (by kernel_rfl) fun J e1 => ?_
  try simp only [← e1]
  clear e1
  generalize lpL (Y.ctx (lim' Y)) 31 = lp
  generalize lim' Y = call
  kernel_rfl
theorem sCallText.p8 (y0 : ByteArray) (y1 : Int) (y2 : Bool) (y3 : Int) (y4 : List (List D)) (y5 : List (List D)) (y6 : Int) (y7 : ByteArray) :
    sCallText.P8 y0 y1 y2 y3 y4 y5 y6 y7 =
    bif y2 then
  bif decide (y0.size + 1 ≤ 70368744177664) then
    (sl1Dec [AV.one (A1.v (Value.int IntKind.i64 y6))] []).bind fun val =>
      bif fitsCells [R1.str] val.1 && true then
        bif decide ((y0 ++ (ByteArray.mk #[32])).size + (val.1.getD 0 TC.d).str.size ≤ 70368744177664) then
          some { cells := [TC.v (Value.string (y0 ++ (ByteArray.mk #[32]) ++ (val.1.getD 0 TC.d).str))], objs := [] }
        else none
      else none
  else none
else
  bif y1 == 2 then
    bif decide (y0.size + 1 ≤ 70368744177664) then
      (sl1Dec [AV.one (A1.v (Value.int IntKind.i64 y6))] []).bind fun val =>
        bif fitsCells [R1.str] val.1 && true then
          bif decide ((y0 ++ (ByteArray.mk #[32])).size + (val.1.getD 0 TC.d).str.size ≤ 70368744177664) then
            bif decide ((y0 ++ (ByteArray.mk #[32]) ++ (val.1.getD 0 TC.d).str).size + 1 ≤ 70368744177664) then
              (sl1Hex [AV.one (A1.v (Value.string y7))] []).bind fun val_1 =>
                bif fitsCells [R1.str] val_1.1 && true then
                  bif decide ((y0 ++ (ByteArray.mk #[32]) ++ (val.1.getD 0 TC.d).str ++ (ByteArray.mk #[32])).size + (val_1.1.getD 0 TC.d).str.size ≤ 70368744177664) then
                    some { cells := [TC.v (Value.string (y0 ++ (ByteArray.mk #[32]) ++ (val.1.getD 0 TC.d).str ++ (ByteArray.mk #[32]) ++ (val_1.1.getD 0 TC.d).str))], objs := [] }
                  else none
                else none
            else none
          else none
        else none
    else none
  else
    bif y1 == 5 then
      bif decide (y0.size + 1 ≤ 70368744177664) then
        (sl3Name [AV.one (A1.s y5)] []).bind fun val =>
          bif fitsCells [R1.str] val.1 && true then
            bif decide ((y0 ++ (ByteArray.mk #[32])).size + (val.1.getD 0 TC.d).str.size ≤ 70368744177664) then
              some { cells := [TC.v (Value.string (y0 ++ (ByteArray.mk #[32]) ++ (val.1.getD 0 TC.d).str))], objs := [] }
            else none
          else none
      else none
    else some { cells := [TC.v (Value.string y0)], objs := [] } := by
  delta sCallText.P8 sl1Dec sl1Hex sl3Name XX
  refine join_at [2, 3, 8] 8 (by kernel_rfl) fun J e1 => ?_
  try simp only [← e1]
  clear e1
  generalize lpL (Y.ctx (lim' Y)) 31 = lp
  generalize lim' Y = call
  kernel_rfl


noncomputable def slices_Index_Sstring_string.L2 (y0 : List (List D)) (y1 : ByteArray) (y2 : Int) (y3 : Int) : Option (Ex × St) := lpL XX 33 (bodyAt 2 slices_Index_Sstring_string.c)
  (mkG 0 19 [(0, AV.one (A1.s y0)), (1, AV.one (A1.v (Value.string y1))), (7, AV.one (A1.v (Value.int IntKind.i64 y2))), (8, AV.one (A1.v (Value.int IntKind.i64 y3)))] [] GL)
noncomputable def slices_Index_Sstring_string.A2 : Ex × St → Option Res := fun r => evA XX 33 (lpL XX 33) 2 slices_Index_Sstring_string.c r.fst r.snd (outE XX 33 Tryd.f33)
noncomputable def slices_Index_Sstring_string.q2 (y0 : Int) : Ex × St := (Ex.ret, mkG 0 19 [(4, AV.one (A1.v (Value.int IntKind.i64 y0)))] [] GL)
noncomputable def slices_Index_Sstring_string.x2 : Ex × St := (Ex.exit 0, mkG 0 19 [] [] GL)
theorem slices_Index_Sstring_string.e (a0 : List (List D)) (a1 : ByteArray) :
    slices_Index_Sstring_string [AV.one (A1.s a0), AV.one (A1.v (Value.string a1))] [] =
    (slices_Index_Sstring_string.L2 a0 a1 (↑a0.length : Int) 0).bind slices_Index_Sstring_string.A2 := by
  refine (slices_Index_Sstring_string.run _ _ (by kernel_rfl)).trans ?_
  delta slices_Index_Sstring_string slices_Index_Sstring_string.L2 slices_Index_Sstring_string.A2 XX
  generalize lpL (Y.ctx (lim' Y)) 33 = lp
  generalize lim' Y = call
  kernel_rfl
theorem slices_Index_Sstring_string.s2 (y0 : List (List D)) (y1 : ByteArray) (y2 : Int) (y3 : Int) :
    slices_Index_Sstring_string.L2 y0 y1 y2 y3 =
    bif decide (y3 < y2) then
  bif decide (0 ≤ y3) && decide (y3 < (↑y0.length : Int)) && decide ((y0.getD y3.toNat []).length = 1) then
    bif fitsRow [CK.str] (y0.getD y3.toNat []) 0 && decide (1 ≤ (y0.getD y3.toNat []).length) then
      bif y1.toList == ((y0.getD y3.toNat []).getD 0 D.h).str.toList then some (slices_Index_Sstring_string.q2 y3) else slices_Index_Sstring_string.L2 y0 y1 y2 (IntKind.i64.wrap (y3 + 1))
    else none
  else none
else some slices_Index_Sstring_string.x2 := by
  refine (lpL_eq (Y := Y) (c := lim' Y) (fn := 33) (rid := 2) (b := bodyAt 2 slices_Index_Sstring_string.c) (by kernel_rfl) _).trans ?_
  delta slices_Index_Sstring_string.L2 slices_Index_Sstring_string.q2 slices_Index_Sstring_string.x2 XX
  generalize lpL (Y.ctx (lim' Y)) 33 = lp
  generalize lim' Y = call
  kernel_rfl
theorem slices_Index_Sstring_string.a2q2 (y0 : Int) :
    slices_Index_Sstring_string.A2 (slices_Index_Sstring_string.q2 y0) =
    some { cells := [TC.v (Value.int IntKind.i64 y0)], objs := [] } := by
  delta slices_Index_Sstring_string.A2 slices_Index_Sstring_string.q2 XX
  generalize lpL (Y.ctx (lim' Y)) 33 = lp
  generalize lim' Y = call
  kernel_rfl
theorem slices_Index_Sstring_string.a2x2 :
    slices_Index_Sstring_string.A2 slices_Index_Sstring_string.x2 =
    some { cells := [TC.v (Value.int IntKind.i64 (-1))], objs := [] } := by
  delta slices_Index_Sstring_string.A2 slices_Index_Sstring_string.x2 XX
  generalize lpL (Y.ctx (lim' Y)) 33 = lp
  generalize lim' Y = call
  kernel_rfl


theorem idataRead.e (a0 : ByteArray) :
    idataRead [AV.one (A1.v (Value.string a0))] [] =
    (iunhex [AV.one (A1.v (Value.string a0))] []).bind fun val => bif fitsCells [R1.str] val.1 && true then some { cells := [TC.v (Value.string (val.1.getD 0 TC.d).str)], objs := [] } else none := by
  refine (idataRead.run _ _ (by kernel_rfl)).trans ?_
  delta idataRead iunhex XX
  generalize lpL (Y.ctx (lim' Y)) 34 = lp
  generalize lim' Y = call
  kernel_rfl


noncomputable def iCallText.P7 (y0 : ByteArray) (y1 : ByteArray) (y2 : Int) (y3 : Bool) (y4 : Int) (y5 : List (List D)) (y6 : List (List D)) (y7 : Int) (y8 : ByteArray) : Option Res := evB XX 35 (lpL XX 35) 7 iCallText.c
  (mkG 0 53
    [(1, AV.one (A1.p true 1 [] 0)), (3, AV.one (A1.v (Value.string y0))), (4, AV.one (A1.v (Value.string y1))), (22, AV.one (A1.v (Value.int IntKind.i64 y2))), (23, AV.one (A1.v (Value.bool y3)))]
    [(1,
        some
          { kind := Kind.box, row := [D.v (Value.int IntKind.i64 y4), D.s y5, D.s y6, D.v (Value.int IntKind.i64 y7), D.v (Value.string y8)], fl := [Own.deep, Own.sh, Own.sh, Own.deep, Own.deep] })]
    GL)
  (outE XX 35 Tryd.f35)
theorem iCallText.e (a0 : Int) (a1 : List (List D)) (a2 : List (List D)) (a3 : Int) (a4 : ByteArray) :
    iCallText [AV.g [A1.v (Value.int IntKind.i64 a0), A1.s a1, A1.s a2, A1.v (Value.int IntKind.i64 a3), A1.v (Value.string a4)]] [] =
    (iCall_isCall [AV.g [A1.v (Value.int IntKind.i64 a0), A1.s a1, A1.s a2, A1.v (Value.int IntKind.i64 a3), A1.v (Value.string a4)]] []).bind fun val =>
  bif fitsCells [R1.bool] val.1 && true then
    bif !(val.1.getD 0 TC.d).bool then some { cells := [TC.v (Value.string (ByteArray.mk #[]))], objs := [] }
    else
      bif
          decide (0 ≤ a0) &&
              decide
                (a0 <
                  (↑([D.s
                                  [[D.v (Value.string (ByteArray.mk #[]))], [D.v (Value.string (ByteArray.mk #[109, 107, 100, 105, 114]))], [D.v (Value.string (ByteArray.mk #[119, 114, 105, 116, 101]))],
                                    [D.v (Value.string (ByteArray.mk #[116, 114, 117, 110, 99, 97, 116, 101]))], [D.v (Value.string (ByteArray.mk #[114, 101, 109, 111, 118, 101]))],
                                    [D.v (Value.string (ByteArray.mk #[114, 101, 110, 97, 109, 101]))], [D.v (Value.string (ByteArray.mk #[99, 104, 109, 111, 100]))]]].getD
                            (0 + (CK.sl, 0).snd) D.h).es.length :
                    Int)) &&
            decide
              (([[D.v (Value.string (ByteArray.mk #[]))], [D.v (Value.string (ByteArray.mk #[109, 107, 100, 105, 114]))],
                        [D.v (Value.string (ByteArray.mk #[119, 114, 105, 116, 101]))],
                        [D.v (Value.string (ByteArray.mk #[116, 114, 117, 110, 99, 97, 116, 101]))],
                        [D.v (Value.string (ByteArray.mk #[114, 101, 109, 111, 118, 101]))],
                        [D.v (Value.string (ByteArray.mk #[114, 101, 110, 97, 109, 101]))],
                        [D.v (Value.string (ByteArray.mk #[99, 104, 109, 111, 100]))]].getD
                    a0.toNat []).length =
                1) then
        bif
            fitsRow [CK.str]
                ([[D.v (Value.string (ByteArray.mk #[]))], [D.v (Value.string (ByteArray.mk #[109, 107, 100, 105, 114]))],
                      [D.v (Value.string (ByteArray.mk #[119, 114, 105, 116, 101]))],
                      [D.v (Value.string (ByteArray.mk #[116, 114, 117, 110, 99, 97, 116, 101]))],
                      [D.v (Value.string (ByteArray.mk #[114, 101, 109, 111, 118, 101]))],
                      [D.v (Value.string (ByteArray.mk #[114, 101, 110, 97, 109, 101]))],
                      [D.v (Value.string (ByteArray.mk #[99, 104, 109, 111, 100]))]].getD
                  a0.toNat [])
                0 &&
              decide
                (1 ≤
                  ([[D.v (Value.string (ByteArray.mk #[]))], [D.v (Value.string (ByteArray.mk #[109, 107, 100, 105, 114]))],
                          [D.v (Value.string (ByteArray.mk #[119, 114, 105, 116, 101]))],
                          [D.v (Value.string (ByteArray.mk #[116, 114, 117, 110, 99, 97, 116, 101]))],
                          [D.v (Value.string (ByteArray.mk #[114, 101, 109, 111, 118, 101]))],
                          [D.v (Value.string (ByteArray.mk #[114, 101, 110, 97, 109, 101]))],
                          [D.v (Value.string (ByteArray.mk #[99, 104, 109, 111, 100]))]].getD
                      a0.toNat []).length) then
          bif
              decide
                ((([[D.v (Value.string (ByteArray.mk #[]))], [D.v (Value.string (ByteArray.mk #[109, 107, 100, 105, 114]))],
                                  [D.v (Value.string (ByteArray.mk #[119, 114, 105, 116, 101]))],
                                  [D.v
                                      (Value.string
                                        (ByteArray.mk #[116, 114, 117, 110, 99, 97, 116, 101]))],
                                  [D.v (Value.string (ByteArray.mk #[114, 101, 109, 111, 118, 101]))],
                                  [D.v (Value.string (ByteArray.mk #[114, 101, 110, 97, 109, 101]))],
                                  [D.v (Value.string (ByteArray.mk #[99, 104, 109, 111, 100]))]].getD
                              a0.toNat []).getD
                          0 D.h).str.size +
                    1 ≤
                  70368744177664) then
            (ipathText [AV.one (A1.s a1)] []).bind fun val =>
              bif fitsCells [R1.str] val.1 && true then
                bif
                    decide
                      (((([[D.v (Value.string (ByteArray.mk #[]))], [D.v (Value.string (ByteArray.mk #[109, 107, 100, 105, 114]))],
                                          [D.v (Value.string (ByteArray.mk #[119, 114, 105, 116, 101]))],
                                          [D.v
                                              (Value.string
                                                (ByteArray.mk #[116, 114, 117, 110, 99, 97, 116, 101]))],
                                          [D.v (Value.string (ByteArray.mk #[114, 101, 109, 111, 118, 101]))],
                                          [D.v (Value.string (ByteArray.mk #[114, 101, 110, 97, 109, 101]))],
                                          [D.v (Value.string (ByteArray.mk #[99, 104, 109, 111, 100]))]].getD
                                      a0.toNat []).getD
                                  0 D.h).str ++
                              (ByteArray.mk #[32])).size +
                          (val.1.getD 0 TC.d).str.size ≤
                        70368744177664) then
                  (strconv_Itoa [AV.one (A1.v (Value.int IntKind.i64 a3))] []).bind fun val_1 =>
                    bif fitsCells [R1.str] val_1.1 && true then
                      iCallText.P7
                        ((([[D.v (Value.string (ByteArray.mk #[]))], [D.v (Value.string (ByteArray.mk #[109, 107, 100, 105, 114]))],
                                        [D.v (Value.string (ByteArray.mk #[119, 114, 105, 116, 101]))],
                                        [D.v
                                            (Value.string
                                              (ByteArray.mk #[116, 114, 117, 110, 99, 97, 116, 101]))],
                                        [D.v (Value.string (ByteArray.mk #[114, 101, 109, 111, 118, 101]))],
                                        [D.v (Value.string (ByteArray.mk #[114, 101, 110, 97, 109, 101]))],
                                        [D.v (Value.string (ByteArray.mk #[99, 104, 109, 111, 100]))]].getD
                                    a0.toNat []).getD
                                0 D.h).str ++
                            (ByteArray.mk #[32]) ++
                          (val.1.getD 0 TC.d).str)
                        (val_1.1.getD 0 TC.d).str a0 (a0 == 2) a0 a1 a2 a3 a4
                    else none
                else none
              else none
          else none
        else none
      else none
  else none := by
  refine (iCallText.run _ _ (by kernel_rfl)).trans ?_
  delta iCallText iCall_isCall ipathText strconv_Itoa iCallText.P7 XX
  refine join_use [7] (by kernel_rfl) fun J e1 => ?_
  try simp only [← e1]
  clear e1
  generalize lpL (Y.ctx (lim' Y)) 35 = lp
  generalize lim' Y = call
  kernel_rfl
theorem iCallText.p7 (y0 : ByteArray) (y1 : ByteArray) (y2 : Int) (y3 : Bool) (y4 : Int) (y5 : List (List D)) (y6 : List (List D)) (y7 : Int) (y8 : ByteArray) :
    iCallText.P7 y0 y1 y2 y3 y4 y5 y6 y7 y8 =
    bif y3 then
  bif decide ((↑y8.size : Int) > 24) then some { cells := [TC.v (Value.string (ByteArray.mk #[]))], objs := [] }
  else
    bif decide (y0.size + 1 ≤ 70368744177664) then
      bif decide ((y0 ++ (ByteArray.mk #[32])).size + y1.size ≤ 70368744177664) then
        bif decide ((y0 ++ (ByteArray.mk #[32]) ++ y1).size + 1 ≤ 70368744177664) then
          (idataText [AV.one (A1.v (Value.string y8))] []).bind fun val =>
            bif fitsCells [R1.str] val.1 && true then
              bif decide ((y0 ++ (ByteArray.mk #[32]) ++ y1 ++ (ByteArray.mk #[32])).size + (val.1.getD 0 TC.d).str.size ≤ 70368744177664) then
                some { cells := [TC.v (Value.string (y0 ++ (ByteArray.mk #[32]) ++ y1 ++ (ByteArray.mk #[32]) ++ (val.1.getD 0 TC.d).str))], objs := [] }
              else none
            else none
        else none
      else none
    else none
else
  bif y2 == 4 then some { cells := [TC.v (Value.string y0)], objs := [] }
  else
    bif y2 == 5 then
      bif decide (y0.size + 1 ≤ 70368744177664) then
        (ipathText [AV.one (A1.s y6)] []).bind fun val =>
          bif fitsCells [R1.str] val.1 && true then
            bif decide ((y0 ++ (ByteArray.mk #[32])).size + (val.1.getD 0 TC.d).str.size ≤ 70368744177664) then
              some { cells := [TC.v (Value.string (y0 ++ (ByteArray.mk #[32]) ++ (val.1.getD 0 TC.d).str))], objs := [] }
            else none
          else none
      else none
    else
      bif decide (y0.size + 1 ≤ 70368744177664) then
        bif decide ((y0 ++ (ByteArray.mk #[32])).size + y1.size ≤ 70368744177664) then some { cells := [TC.v (Value.string (y0 ++ (ByteArray.mk #[32]) ++ y1))], objs := [] }
        else none
      else none := by
  delta iCallText.P7 idataText ipathText XX
  refine join_at [7] 7 (by kernel_rfl) fun J e1 => ?_
  try simp only [← e1]
  clear e1
  generalize lpL (Y.ctx (lim' Y)) 35 = lp
  generalize lim' Y = call
  kernel_rfl


noncomputable def weqStringS.L4 (y0 : List (List D)) (y1 : List (List D)) (y2 : Int) : Option (Ex × St) := lpL XX 36 (bodyAt 4 weqStringS.c) (mkG 0 26 [(0, AV.one (A1.s y0)), (1, AV.one (A1.s y1)), (5, AV.one (A1.v (Value.int IntKind.i64 y2)))] [] GL)
noncomputable def weqStringS.A4 : Ex × St → Option Res := fun r => evA XX 36 (lpL XX 36) 4 weqStringS.c r.fst r.snd (outE XX 36 Tryd.f36)
noncomputable def weqStringS.q4 (y0 : Bool) : Ex × St := (Ex.ret, mkG 0 26 [(4, AV.one (A1.v (Value.bool y0)))] [] GL)
noncomputable def weqStringS.x4 : Ex × St := (Ex.exit 0, mkG 0 26 [] [] GL)
theorem weqStringS.e (a0 : List (List D)) (a1 : List (List D)) :
    weqStringS [AV.one (A1.s a0), AV.one (A1.s a1)] [] =
    bif (↑a0.length : Int) != (↑a1.length : Int) then some { cells := [TC.v (Value.bool false)], objs := [] } else (weqStringS.L4 a0 a1 0).bind weqStringS.A4 := by
  refine (weqStringS.run _ _ (by kernel_rfl)).trans ?_
  delta weqStringS weqStringS.L4 weqStringS.A4 XX
  generalize lpL (Y.ctx (lim' Y)) 36 = lp
  generalize lim' Y = call
  kernel_rfl
theorem weqStringS.s4 (y0 : List (List D)) (y1 : List (List D)) (y2 : Int) :
    weqStringS.L4 y0 y1 y2 =
    bif decide (y2 < (↑y0.length : Int)) then
  bif decide (0 ≤ y2) && decide (y2 < (↑y0.length : Int)) && decide ((y0.getD y2.toNat []).length = 1) then
    bif fitsRow [CK.str] (y0.getD y2.toNat []) 0 && decide (1 ≤ (y0.getD y2.toNat []).length) then
      bif decide (0 ≤ y2) && decide (y2 < (↑y1.length : Int)) && decide ((y1.getD y2.toNat []).length = 1) then
        bif fitsRow [CK.str] (y1.getD y2.toNat []) 0 && decide (1 ≤ (y1.getD y2.toNat []).length) then
          bif !((y0.getD y2.toNat []).getD 0 D.h).str.toList == ((y1.getD y2.toNat []).getD 0 D.h).str.toList then some (weqStringS.q4 false) else weqStringS.L4 y0 y1 (IntKind.i64.wrap (y2 + 1))
        else none
      else none
    else none
  else none
else some weqStringS.x4 := by
  refine (lpL_eq (Y := Y) (c := lim' Y) (fn := 36) (rid := 4) (b := bodyAt 4 weqStringS.c) (by kernel_rfl) _).trans ?_
  delta weqStringS.L4 weqStringS.q4 weqStringS.x4 XX
  generalize lpL (Y.ctx (lim' Y)) 36 = lp
  generalize lim' Y = call
  kernel_rfl
theorem weqStringS.a4q4 (y0 : Bool) :
    weqStringS.A4 (weqStringS.q4 y0) =
    some { cells := [TC.v (Value.bool y0)], objs := [] } := by
  delta weqStringS.A4 weqStringS.q4 XX
  generalize lpL (Y.ctx (lim' Y)) 36 = lp
  generalize lim' Y = call
  kernel_rfl
theorem weqStringS.a4x4 :
    weqStringS.A4 weqStringS.x4 =
    some { cells := [TC.v (Value.bool true)], objs := [] } := by
  delta weqStringS.A4 weqStringS.x4 XX
  generalize lpL (Y.ctx (lim' Y)) 36 = lp
  generalize lim' Y = call
  kernel_rfl


noncomputable def wmarkStringS.L2 (y0 : Int) (y1 : Int) (y2 : List (List D)) : Option (Ex × St) := lpL XX 37 (bodyAt 2 wmarkStringS.c)
  (mkG 1 20 [(0, AV.one (A1.r 0 [] 0)), (1, AV.one (A1.v (Value.int IntKind.i64 y0))), (5, AV.one (A1.v (Value.int IntKind.i64 y1)))]
    [(0, some { kind := Kind.virt, row := [D.s y2], fl := [Own.deep] })] GL)
noncomputable def wmarkStringS.A2 : Ex × St → Option Res := fun r => evA XX 37 (lpL XX 37) 2 wmarkStringS.c r.fst r.snd (outE XX 37 Tryd.f37)
noncomputable def wmarkStringS.x2 (y0 : Int) (y1 : List (List D)) : Ex × St := (Ex.exit 0, mkG 1 20 [(1, AV.one (A1.v (Value.int IntKind.i64 y0)))] [(0, some { kind := Kind.virt, row := [D.s y1], fl := [Own.deep] })] GL)
theorem wmarkStringS.e (a0 : List (List D)) (a1 : Int) :
    wmarkStringS [AV.one (A1.r 0 [] 0), AV.one (A1.v (Value.int IntKind.i64 a1))] [{ kind := Kind.virt, row := [D.s a0], fl := [Own.deep] }] =
    (wmarkStringS.L2 a1 0 a0).bind wmarkStringS.A2 := by
  refine (wmarkStringS.run _ _ (by kernel_rfl)).trans ?_
  delta wmarkStringS wmarkStringS.L2 wmarkStringS.A2 XX
  generalize lpL (Y.ctx (lim' Y)) 37 = lp
  generalize lim' Y = call
  kernel_rfl
theorem wmarkStringS.s2 (y0 : Int) (y1 : Int) (y2 : List (List D)) :
    wmarkStringS.L2 y0 y1 y2 =
    bif decide (y1 < (↑y2.length : Int)) then
  (wmarkText [AV.one (A1.v (Value.int IntKind.i64 y0))] []).bind fun val =>
    bif fitsCells [R1.str] val.1 && true then
      bif decide (0 ≤ y1) && decide (y1 < (↑y2.length : Int)) && decide ((y2.getD y1.toNat []).length = 1) then
        bif decide (1 ≤ (y2.getD y1.toNat []).length) && true then
          wmarkStringS.L2 (IntKind.i64.wrap (y0 + 1)) (IntKind.i64.wrap (y1 + 1)) (y2.set y1.toNat (D.v (Value.string (val.1.getD 0 TC.d).str) :: List.drop 1 (y2.getD y1.toNat [])))
        else none
      else none
    else none
else some (wmarkStringS.x2 y0 y2) := by
  refine (lpL_eq (Y := Y) (c := lim' Y) (fn := 37) (rid := 2) (b := bodyAt 2 wmarkStringS.c) (by kernel_rfl) _).trans ?_
  delta wmarkStringS.L2 wmarkText wmarkStringS.x2 XX
  generalize lpL (Y.ctx (lim' Y)) 37 = lp
  generalize lim' Y = call
  kernel_rfl
theorem wmarkStringS.a2x2 (y0 : Int) (y1 : List (List D)) :
    wmarkStringS.A2 (wmarkStringS.x2 y0 y1) =
    some { cells := [TC.v (Value.int IntKind.i64 y0)], objs := [{ kind := Kind.virt, row := [D.s y1], fl := [Own.deep] }] } := by
  delta wmarkStringS.A2 wmarkStringS.x2 XX
  generalize lpL (Y.ctx (lim' Y)) 37 = lp
  generalize lim' Y = call
  kernel_rfl


noncomputable def wheldStringS.L2 (y0 : List (List D)) (y1 : Int) (y2 : Int) : Option (Ex × St) := lpL XX 38 (bodyAt 2 wheldStringS.c) (mkG 0 22 [(0, AV.one (A1.s y0)), (1, AV.one (A1.v (Value.int IntKind.i64 y1))), (5, AV.one (A1.v (Value.int IntKind.i64 y2)))] [] GL)
noncomputable def wheldStringS.A2 : Ex × St → Option Res := fun r => evA XX 38 (lpL XX 38) 2 wheldStringS.c r.fst r.snd (outE XX 38 Tryd.f38)
noncomputable def wheldStringS.q2 (y0 : Int) (y1 : Int) : Ex × St := (Ex.ret, mkG 0 22 [(1, AV.one (A1.v (Value.int IntKind.i64 y0))), (4, AV.one (A1.v (Value.int IntKind.i64 y1)))] [] GL)
noncomputable def wheldStringS.x2 (y0 : Int) : Ex × St := (Ex.exit 0, mkG 0 22 [(1, AV.one (A1.v (Value.int IntKind.i64 y0)))] [] GL)
theorem wheldStringS.e (a0 : List (List D)) (a1 : Int) :
    wheldStringS [AV.one (A1.s a0), AV.one (A1.v (Value.int IntKind.i64 a1))] [] =
    (wheldStringS.L2 a0 a1 0).bind wheldStringS.A2 := by
  refine (wheldStringS.run _ _ (by kernel_rfl)).trans ?_
  delta wheldStringS wheldStringS.L2 wheldStringS.A2 XX
  generalize lpL (Y.ctx (lim' Y)) 38 = lp
  generalize lim' Y = call
  kernel_rfl
theorem wheldStringS.s2 (y0 : List (List D)) (y1 : Int) (y2 : Int) :
    wheldStringS.L2 y0 y1 y2 =
    bif decide (y2 < (↑y0.length : Int)) then
  bif decide (0 ≤ y2) && decide (y2 < (↑y0.length : Int)) && decide ((y0.getD y2.toNat []).length = 1) then
    bif fitsRow [CK.str] (y0.getD y2.toNat []) 0 && decide (1 ≤ (y0.getD y2.toNat []).length) then
      (wmarkText [AV.one (A1.v (Value.int IntKind.i64 y1))] []).bind fun val =>
        bif fitsCells [R1.str] val.1 && true then
          bif !((y0.getD y2.toNat []).getD 0 D.h).str.toList == (val.1.getD 0 TC.d).str.toList then some (wheldStringS.q2 y1 (-1))
          else wheldStringS.L2 y0 (IntKind.i64.wrap (y1 + 1)) (IntKind.i64.wrap (y2 + 1))
        else none
    else none
  else none
else some (wheldStringS.x2 y1) := by
  refine (lpL_eq (Y := Y) (c := lim' Y) (fn := 38) (rid := 2) (b := bodyAt 2 wheldStringS.c) (by kernel_rfl) _).trans ?_
  delta wheldStringS.L2 wmarkText wheldStringS.q2 wheldStringS.x2 XX
  generalize lpL (Y.ctx (lim' Y)) 38 = lp
  generalize lim' Y = call
  kernel_rfl
theorem wheldStringS.a2q2 (y0 : Int) (y1 : Int) :
    wheldStringS.A2 (wheldStringS.q2 y0 y1) =
    some { cells := [TC.v (Value.int IntKind.i64 y1)], objs := [] } := by
  delta wheldStringS.A2 wheldStringS.q2 XX
  generalize lpL (Y.ctx (lim' Y)) 38 = lp
  generalize lim' Y = call
  kernel_rfl
theorem wheldStringS.a2x2 (y0 : Int) :
    wheldStringS.A2 (wheldStringS.x2 y0) =
    some { cells := [TC.v (Value.int IntKind.i64 y0)], objs := [] } := by
  delta wheldStringS.A2 wheldStringS.x2 XX
  generalize lpL (Y.ctx (lim' Y)) 38 = lp
  generalize lim' Y = call
  kernel_rfl


theorem sl21In.e (a0 : Int) (a1 : Int) (a2 : Int) :
    sl21In [AV.one (A1.v (Value.int IntKind.i64 a0)), AV.one (A1.v (Value.int IntKind.i64 a1)), AV.one (A1.v (Value.int IntKind.i64 a2))] [] =
    bif decide (a0 ≥ a1) then some { cells := [TC.v (Value.bool (decide (a0 ≤ a2)))], objs := [] } else some { cells := [TC.v (Value.bool false)], objs := [] } := by
  refine (sl21In.run _ _ (by kernel_rfl)).trans ?_
  delta sl21In XX
  generalize lpL (Y.ctx (lim' Y)) 39 = lp
  generalize lim' Y = call
  kernel_rfl


theorem sl1In.e (a0 : Int) (a1 : Int) (a2 : Int) :
    sl1In [AV.one (A1.v (Value.int IntKind.i64 a0)), AV.one (A1.v (Value.int IntKind.i64 a1)), AV.one (A1.v (Value.int IntKind.i64 a2))] [] =
    bif decide (a0 ≥ a1) then some { cells := [TC.v (Value.bool (decide (a0 ≤ a2)))], objs := [] } else some { cells := [TC.v (Value.bool false)], objs := [] } := by
  refine (sl1In.run _ _ (by kernel_rfl)).trans ?_
  delta sl1In XX
  generalize lpL (Y.ctx (lim' Y)) 40 = lp
  generalize lim' Y = call
  kernel_rfl


noncomputable def sl2PathOk.L2 (y0 : List (List D)) (y1 : Int) : Option (Ex × St) := lpL XX 41 (bodyAt 2 sl2PathOk.c) (mkG 0 19 [(0, AV.one (A1.s y0)), (3, AV.one (A1.v (Value.int IntKind.i64 y1)))] [] GL)
noncomputable def sl2PathOk.A2 : Ex × St → Option Res := fun r => evA XX 41 (lpL XX 41) 2 sl2PathOk.c r.fst r.snd (outE XX 41 Tryd.f41)
noncomputable def sl2PathOk.q2 (y0 : List (List D)) (y1 : Bool) : Ex × St := (Ex.ret, mkG 0 19 [(0, AV.one (A1.s y0)), (2, AV.one (A1.v (Value.bool y1)))] [] GL)
noncomputable def sl2PathOk.x2 (y0 : List (List D)) : Ex × St := (Ex.exit 0, mkG 0 19 [(0, AV.one (A1.s y0))] [] GL)
theorem sl2PathOk.e (a0 : List (List D)) :
    sl2PathOk [AV.one (A1.s a0)] [] =
    (sl2PathOk.L2 a0 0).bind sl2PathOk.A2 := by
  refine (sl2PathOk.run _ _ (by kernel_rfl)).trans ?_
  delta sl2PathOk sl2PathOk.L2 sl2PathOk.A2 XX
  generalize lpL (Y.ctx (lim' Y)) 41 = lp
  generalize lim' Y = call
  kernel_rfl
theorem sl2PathOk.s2 (y0 : List (List D)) (y1 : Int) :
    sl2PathOk.L2 y0 y1 =
    bif decide (y1 < (↑y0.length : Int)) then
  bif decide (0 ≤ y1) && decide (y1 < (↑y0.length : Int)) && decide ((y0.getD y1.toNat []).length = 1) then
    bif fitsRow [CK.str] (y0.getD y1.toNat []) 0 && decide (1 ≤ (y0.getD y1.toNat []).length) then
      (sl1NameOk [AV.one (A1.v (Value.string ((y0.getD y1.toNat []).getD 0 D.h).str))] []).bind fun val =>
        bif fitsCells [R1.bool] val.1 && true then bif !(val.1.getD 0 TC.d).bool then some (sl2PathOk.q2 y0 false) else sl2PathOk.L2 y0 (IntKind.i64.wrap (y1 + 1)) else none
    else none
  else none
else some (sl2PathOk.x2 y0) := by
  refine (lpL_eq (Y := Y) (c := lim' Y) (fn := 41) (rid := 2) (b := bodyAt 2 sl2PathOk.c) (by kernel_rfl) _).trans ?_
  delta sl2PathOk.L2 sl1NameOk sl2PathOk.q2 sl2PathOk.x2 XX
  generalize lpL (Y.ctx (lim' Y)) 41 = lp
  generalize lim' Y = call
  kernel_rfl
theorem sl2PathOk.a2q2 (y0 : List (List D)) (y1 : Bool) :
    sl2PathOk.A2 (sl2PathOk.q2 y0 y1) =
    some { cells := [TC.v (Value.bool y1)], objs := [] } := by
  delta sl2PathOk.A2 sl2PathOk.q2 XX
  generalize lpL (Y.ctx (lim' Y)) 41 = lp
  generalize lim' Y = call
  kernel_rfl
theorem sl2PathOk.a2x2 (y0 : List (List D)) :
    sl2PathOk.A2 (sl2PathOk.x2 y0) =
    (sl1In [AV.one (A1.v (Value.int IntKind.i64 (↑y0.length : Int))), AV.one (A1.v (Value.int IntKind.i64 1)), AV.one (A1.v (Value.int IntKind.i64 4))] []).bind fun val =>
  bif fitsCells [R1.bool] val.1 && true then some { cells := [TC.v (Value.bool (val.1.getD 0 TC.d).bool)], objs := [] } else none := by
  delta sl2PathOk.A2 sl2PathOk.x2 sl1In XX
  generalize lpL (Y.ctx (lim' Y)) 41 = lp
  generalize lim' Y = call
  kernel_rfl


theorem sl1Dec.e (a0 : Int) :
    sl1Dec [AV.one (A1.v (Value.int IntKind.i64 a0))] [] =
    bif decide (a0 < -9223372036854775807) then
  some
    {
      cells :=
        [TC.v
            (Value.string
              (ByteArray.mk #[45, 57, 50, 50, 51, 51, 55, 50, 48, 51, 54, 56, 53, 52, 55, 55, 53, 56, 48, 56]))],
      objs := [] }
else
  bif decide (a0 < 0) then
    (sl1Dec [AV.one (A1.v (Value.int IntKind.i64 (IntKind.i64.wrap (0 - a0))))] []).bind fun val =>
      bif fitsCells [R1.str] val.1 && true then
        bif decide (1 + (val.1.getD 0 TC.d).str.size ≤ 70368744177664) then some { cells := [TC.v (Value.string ((ByteArray.mk #[45]) ++ (val.1.getD 0 TC.d).str))], objs := [] } else none
      else none
  else
    bif decide (a0 < 10) then some { cells := [TC.v (Value.string (strOf [[D.v (Value.int IntKind.u8 (IntKind.u8.wrap (IntKind.i64.wrap (48 + a0))))]]))], objs := [] }
    else
      (sl1Dec [AV.one (A1.v (Value.int IntKind.i64 (IntKind.i64.wrap (a0.tdiv 10))))] []).bind fun val =>
        bif fitsCells [R1.str] val.1 && true then
          bif decide ((val.1.getD 0 TC.d).str.size + 1 ≤ 70368744177664) then
            some { cells := [TC.v (Value.string ((val.1.getD 0 TC.d).str ++ strOf [[D.v (Value.int IntKind.u8 (IntKind.u8.wrap (IntKind.i64.wrap (48 + a0.tmod 10))))]]))], objs := [] }
          else none
        else none := by
  refine (sl1Dec.run _ _ (by kernel_rfl)).trans ?_
  delta sl1Dec XX
  generalize lpL (Y.ctx (lim' Y)) 43 = lp
  generalize lim' Y = call
  kernel_rfl


noncomputable def sl3Name.L3 (y0 : List (List D)) (y1 : ByteArray) (y2 : Int) : Option (Ex × St) := lpL XX 44 (bodyAt 3 sl3Name.c) (mkG 0 21 [(0, AV.one (A1.s y0)), (3, AV.one (A1.v (Value.string y1))), (4, AV.one (A1.v (Value.int IntKind.i64 y2)))] [] GL)
noncomputable def sl3Name.A3 : Ex × St → Option Res := fun r => evA XX 44 (lpL XX 44) 3 sl3Name.c r.fst r.snd (outE XX 44 Tryd.f44)
noncomputable def sl3Name.x3 (y0 : ByteArray) : Ex × St := (Ex.exit 0, mkG 0 21 [(3, AV.one (A1.v (Value.string y0)))] [] GL)
theorem sl3Name.e (a0 : List (List D)) :
    sl3Name [AV.one (A1.s a0)] [] =
    (sl3Name.L3 a0 (ByteArray.mk #[]) 0).bind sl3Name.A3 := by
  refine (sl3Name.run _ _ (by kernel_rfl)).trans ?_
  delta sl3Name sl3Name.L3 sl3Name.A3 XX
  generalize lpL (Y.ctx (lim' Y)) 44 = lp
  generalize lim' Y = call
  kernel_rfl
theorem sl3Name.s3 (y0 : List (List D)) (y1 : ByteArray) (y2 : Int) :
    sl3Name.L3 y0 y1 y2 =
    bif decide (y2 < (↑y0.length : Int)) then
  bif decide (y1.size + 1 ≤ 70368744177664) then
    bif decide (0 ≤ y2) && decide (y2 < (↑y0.length : Int)) && decide ((y0.getD y2.toNat []).length = 1) then
      bif fitsRow [CK.str] (y0.getD y2.toNat []) 0 && decide (1 ≤ (y0.getD y2.toNat []).length) then
        bif decide ((y1 ++ (ByteArray.mk #[47])).size + ((y0.getD y2.toNat []).getD 0 D.h).str.size ≤ 70368744177664) then
          sl3Name.L3 y0 (y1 ++ (ByteArray.mk #[47]) ++ ((y0.getD y2.toNat []).getD 0 D.h).str) (IntKind.i64.wrap (y2 + 1))
        else none
      else none
    else none
  else none
else some (sl3Name.x3 y1) := by
  refine (lpL_eq (Y := Y) (c := lim' Y) (fn := 44) (rid := 3) (b := bodyAt 3 sl3Name.c) (by kernel_rfl) _).trans ?_
  delta sl3Name.L3 sl3Name.x3 XX
  generalize lpL (Y.ctx (lim' Y)) 44 = lp
  generalize lim' Y = call
  kernel_rfl
theorem sl3Name.a3x3 (y0 : ByteArray) :
    sl3Name.A3 (sl3Name.x3 y0) =
    bif y0.toList == [] then some { cells := [TC.v (Value.string (ByteArray.mk #[47]))], objs := [] } else some { cells := [TC.v (Value.string y0)], objs := [] } := by
  delta sl3Name.A3 sl3Name.x3 XX
  generalize lpL (Y.ctx (lim' Y)) 44 = lp
  generalize lim' Y = call
  kernel_rfl


theorem ipathText.e (a0 : List (List D)) :
    ipathText [AV.one (A1.s a0)] [] =
    bif (↑a0.length : Int) == 0 then some { cells := [TC.v (Value.string (ByteArray.mk #[47]))], objs := [] }
else
  (strings_Join [AV.one (A1.s a0), AV.one (A1.v (Value.string (ByteArray.mk #[47])))] []).bind fun val =>
    bif fitsCells [R1.str] val.1 && true then
      bif decide (1 + (val.1.getD 0 TC.d).str.size ≤ 70368744177664) then some { cells := [TC.v (Value.string ((ByteArray.mk #[47]) ++ (val.1.getD 0 TC.d).str))], objs := [] } else none
    else none := by
  refine (ipathText.run _ _ (by kernel_rfl)).trans ?_
  delta ipathText strings_Join XX
  generalize lpL (Y.ctx (lim' Y)) 50 = lp
  generalize lim' Y = call
  kernel_rfl


noncomputable def sl1Digit.P2 (y0 : Int) (y1 : Bool) : Option Res := evB XX 52 (lpL XX 52) 2 sl1Digit.c (mkG 0 24 [(0, AV.one (A1.v (Value.int IntKind.u8 y0))), (3, AV.one (A1.v (Value.bool y1)))] [] GL) (outE XX 52 Tryd.f52)
noncomputable def sl1Digit.P4 (y0 : Int) (y1 : Bool) : Option Res := evB XX 52 (lpL XX 52) 4 sl1Digit.c (mkG 0 24 [(0, AV.one (A1.v (Value.int IntKind.u8 y0))), (13, AV.one (A1.v (Value.bool y1)))] [] GL) (outE XX 52 Tryd.f52)
theorem sl1Digit.e (a0 : Int) :
    sl1Digit [AV.one (A1.v (Value.int IntKind.u8 a0))] [] =
    bif decide (a0 ≥ 48) then sl1Digit.P2 a0 (decide (a0 ≤ 57)) else sl1Digit.P2 a0 false := by
  refine (sl1Digit.run _ _ (by kernel_rfl)).trans ?_
  delta sl1Digit sl1Digit.P2 XX
  refine join_use [2, 4] (by kernel_rfl) fun J e1 => ?_
  try simp only [← e1]
  clear e1
  generalize lpL (Y.ctx (lim' Y)) 52 = lp
  generalize lim' Y = call
  kernel_rfl
theorem sl1Digit.p2 (y0 : Int) (y1 : Bool) :
    sl1Digit.P2 y0 y1 =
    bif y1 then some { cells := [TC.v (Value.int IntKind.i64 (IntKind.i64.wrap (IntKind.u8.wrap (y0 - 48))))], objs := [] }
else bif decide (y0 ≥ 97) then sl1Digit.P4 y0 (decide (y0 ≤ 102)) else sl1Digit.P4 y0 false := by
  delta sl1Digit.P2 sl1Digit.P4 XX
  refine join_at [2, 4] 2 (by kernel_rfl) fun J e1 => ?_
  try simp only [← e1]
  clear e1
  generalize lpL (Y.ctx (lim' Y)) 52 = lp
  generalize lim' Y = call
  kernel_rfl
theorem sl1Digit.p4 (y0 : Int) (y1 : Bool) :
    sl1Digit.P4 y0 y1 =
    bif y1 then some { cells := [TC.v (Value.int IntKind.i64 (IntKind.i64.wrap (IntKind.i64.wrap (IntKind.u8.wrap (y0 - 97)) + 10)))], objs := [] }
else some { cells := [TC.v (Value.int IntKind.i64 99)], objs := [] } := by
  delta sl1Digit.P4 XX
  refine join_at [2, 4] 4 (by kernel_rfl) fun J e1 => ?_
  try simp only [← e1]
  clear e1
  generalize lpL (Y.ctx (lim' Y)) 52 = lp
  generalize lim' Y = call
  kernel_rfl


noncomputable def sl2CallOk.P4 (y0 : Int) (y1 : Bool) (y2 : Int) (y3 : List (List D)) (y4 : List (List D)) (y5 : Int) (y6 : ByteArray) : Option Res := evB XX 53 (lpL XX 53) 4 sl2CallOk.c
  (mkG 0 42 [(1, AV.one (A1.p true 1 [] 0)), (4, AV.one (A1.v (Value.int IntKind.i64 y0))), (5, AV.one (A1.v (Value.bool y1)))]
    [(1,
        some
          { kind := Kind.box, row := [D.v (Value.int IntKind.i64 y2), D.s y3, D.s y4, D.v (Value.int IntKind.i64 y5), D.v (Value.string y6)], fl := [Own.deep, Own.sh, Own.sh, Own.deep, Own.deep] })]
    GL)
  (outE XX 53 Tryd.f53)
noncomputable def sl2CallOk.P7 (y0 : Int) (y1 : Bool) (y2 : Int) (y3 : List (List D)) (y4 : List (List D)) (y5 : Int) (y6 : ByteArray) : Option Res := evB XX 53 (lpL XX 53) 7 sl2CallOk.c
  (mkG 0 42 [(1, AV.one (A1.p true 1 [] 0)), (4, AV.one (A1.v (Value.int IntKind.i64 y0))), (16, AV.one (A1.v (Value.bool y1)))]
    [(1,
        some
          { kind := Kind.box, row := [D.v (Value.int IntKind.i64 y2), D.s y3, D.s y4, D.v (Value.int IntKind.i64 y5), D.v (Value.string y6)], fl := [Own.deep, Own.sh, Own.sh, Own.deep, Own.deep] })]
    GL)
  (outE XX 53 Tryd.f53)
theorem sl2CallOk.e (a0 : Int) (a1 : List (List D)) (a2 : List (List D)) (a3 : Int) (a4 : ByteArray) :
    sl2CallOk [AV.g [A1.v (Value.int IntKind.i64 a0), A1.s a1, A1.s a2, A1.v (Value.int IntKind.i64 a3), A1.v (Value.string a4)]] [] =
    bif a0 == 1 then sl2CallOk.P4 a0 (a0 == 1) a0 a1 a2 a3 a4 else sl2CallOk.P4 a0 (a0 == 6) a0 a1 a2 a3 a4 := by
  refine (sl2CallOk.run _ _ (by kernel_rfl)).trans ?_
  delta sl2CallOk sl2CallOk.P4 XX
  refine join_use [4, 7] (by kernel_rfl) fun J e1 => ?_
  try simp only [← e1]
  clear e1
  generalize lpL (Y.ctx (lim' Y)) 53 = lp
  generalize lim' Y = call
  kernel_rfl
theorem sl2CallOk.p4 (y0 : Int) (y1 : Bool) (y2 : Int) (y3 : List (List D)) (y4 : List (List D)) (y5 : Int) (y6 : ByteArray) :
    sl2CallOk.P4 y0 y1 y2 y3 y4 y5 y6 =
    bif y1 then
  (sl2PathOk [AV.one (A1.s y3)] []).bind fun val =>
    bif fitsCells [R1.bool] val.1 && true then
      bif (val.1.getD 0 TC.d).bool then
        (sl1In [AV.one (A1.v (Value.int IntKind.i64 y5)), AV.one (A1.v (Value.int IntKind.i64 0)), AV.one (A1.v (Value.int IntKind.i64 7))] []).bind fun val =>
          bif fitsCells [R1.bool] val.1 && true then some { cells := [TC.v (Value.bool (val.1.getD 0 TC.d).bool)], objs := [] } else none
      else some { cells := [TC.v (Value.bool false)], objs := [] }
    else none
else bif y0 == 2 then sl2CallOk.P7 y0 (y0 == 2) y2 y3 y4 y5 y6 else sl2CallOk.P7 y0 (y0 == 3) y2 y3 y4 y5 y6 := by
  delta sl2CallOk.P4 sl2PathOk sl1In sl2CallOk.P7 XX
  refine join_at [4, 7] 4 (by kernel_rfl) fun J e1 => ?_
  try simp only [← e1]
  clear e1
  generalize lpL (Y.ctx (lim' Y)) 53 = lp
  generalize lim' Y = call
  kernel_rfl
theorem sl2CallOk.p7 (y0 : Int) (y1 : Bool) (y2 : Int) (y3 : List (List D)) (y4 : List (List D)) (y5 : Int) (y6 : ByteArray) :
    sl2CallOk.P7 y0 y1 y2 y3 y4 y5 y6 =
    bif y1 then
  (sl2PathOk [AV.one (A1.s y3)] []).bind fun val =>
    bif fitsCells [R1.bool] val.1 && true then
      bif (val.1.getD 0 TC.d).bool then
        (sl1In [AV.one (A1.v (Value.int IntKind.i64 y5)), AV.one (A1.v (Value.int IntKind.i64 0)), AV.one (A1.v (Value.int IntKind.i64 24))] []).bind fun val =>
          bif fitsCells [R1.bool] val.1 && true then some { cells := [TC.v (Value.bool (val.1.getD 0 TC.d).bool)], objs := [] } else none
      else some { cells := [TC.v (Value.bool false)], objs := [] }
    else none
else
  bif y0 == 4 then (sl2PathOk [AV.one (A1.s y3)] []).bind fun val => bif fitsCells [R1.bool] val.1 && true then some { cells := [TC.v (Value.bool (val.1.getD 0 TC.d).bool)], objs := [] } else none
  else
    bif y0 == 5 then
      (sl2PathOk [AV.one (A1.s y3)] []).bind fun val =>
        bif fitsCells [R1.bool] val.1 && true then
          bif (val.1.getD 0 TC.d).bool then
            (sl2PathOk [AV.one (A1.s y4)] []).bind fun val => bif fitsCells [R1.bool] val.1 && true then some { cells := [TC.v (Value.bool (val.1.getD 0 TC.d).bool)], objs := [] } else none
          else some { cells := [TC.v (Value.bool false)], objs := [] }
        else none
    else some { cells := [TC.v (Value.bool false)], objs := [] } := by
  delta sl2CallOk.P7 sl2PathOk sl1In XX
  refine join_at [4, 7] 7 (by kernel_rfl) fun J e1 => ?_
  try simp only [← e1]
  clear e1
  generalize lpL (Y.ctx (lim' Y)) 53 = lp
  generalize lim' Y = call
  kernel_rfl


noncomputable def sl1Hex.L3 (y0 : ByteArray) (y1 : ByteArray) (y2 : Int) : Option (Ex × St) := lpL XX 54 (bodyAt 3 sl1Hex.c) (mkG 0 37 [(0, AV.one (A1.v (Value.string y0))), (3, AV.one (A1.v (Value.string y1))), (4, AV.one (A1.v (Value.int IntKind.i64 y2)))] [] GL)
noncomputable def sl1Hex.A3 : Ex × St → Option Res := fun r => evA XX 54 (lpL XX 54) 3 sl1Hex.c r.fst r.snd (outE XX 54 Tryd.f54)
noncomputable def sl1Hex.x3 (y0 : ByteArray) : Ex × St := (Ex.exit 0, mkG 0 37 [(3, AV.one (A1.v (Value.string y0)))] [] GL)
theorem sl1Hex.e (a0 : ByteArray) :
    sl1Hex [AV.one (A1.v (Value.string a0))] [] =
    (sl1Hex.L3 a0 (ByteArray.mk #[]) 0).bind sl1Hex.A3 := by
  refine (sl1Hex.run _ _ (by kernel_rfl)).trans ?_
  delta sl1Hex sl1Hex.L3 sl1Hex.A3 XX
  generalize lpL (Y.ctx (lim' Y)) 54 = lp
  generalize lim' Y = call
  kernel_rfl
theorem sl1Hex.s3 (y0 : ByteArray) (y1 : ByteArray) (y2 : Int) :
    sl1Hex.L3 y0 y1 y2 =
    bif decide (y2 < (↑y0.size : Int)) then
  bif decide (0 ≤ y2) && decide (y2 < (↑y0.size : Int)) then
    bif decide (0 ≤ y2) && decide (y2 < (↑y0.size : Int)) then
      bif
          decide (IntKind.u8.wrap ((byteAt y0 y2.toNat).tdiv 16) ≤ IntKind.u8.wrap (IntKind.u8.wrap ((byteAt y0 y2.toNat).tdiv 16) + 1)) &&
            decide (IntKind.u8.wrap (IntKind.u8.wrap ((byteAt y0 y2.toNat).tdiv 16) + 1) ≤ (↑(ByteArray.mk #[48, 49, 50, 51, 52, 53, 54, 55, 56, 57, 97, 98, 99, 100, 101, 102]).size : Int)) then
        bif
            decide
              (y1.size +
                  ((ByteArray.mk #[48, 49, 50, 51, 52, 53, 54, 55, 56, 57, 97, 98, 99, 100, 101, 102]).extract
                      (IntKind.u8.wrap ((byteAt y0 y2.toNat).tdiv 16)).toNat (IntKind.u8.wrap (IntKind.u8.wrap ((byteAt y0 y2.toNat).tdiv 16) + 1)).toNat).size ≤
                70368744177664) then
          bif decide (0 ≤ y2) && decide (y2 < (↑y0.size : Int)) then
            bif decide (0 ≤ y2) && decide (y2 < (↑y0.size : Int)) then
              bif
                  decide ((byteAt y0 y2.toNat).tmod 16 ≤ IntKind.u8.wrap ((byteAt y0 y2.toNat).tmod 16 + 1)) &&
                    decide (IntKind.u8.wrap ((byteAt y0 y2.toNat).tmod 16 + 1) ≤ (↑(ByteArray.mk #[48, 49, 50, 51, 52, 53, 54, 55, 56, 57, 97, 98, 99, 100, 101, 102]).size : Int)) then
                bif
                    decide
                      ((y1 ++
                              (ByteArray.mk #[48, 49, 50, 51, 52, 53, 54, 55, 56, 57, 97, 98, 99, 100, 101, 102]).extract
                                (IntKind.u8.wrap ((byteAt y0 y2.toNat).tdiv 16)).toNat (IntKind.u8.wrap (IntKind.u8.wrap ((byteAt y0 y2.toNat).tdiv 16) + 1)).toNat).size +
                          ((ByteArray.mk #[48, 49, 50, 51, 52, 53, 54, 55, 56, 57, 97, 98, 99, 100, 101, 102]).extract
                              ((byteAt y0 y2.toNat).tmod 16).toNat (IntKind.u8.wrap ((byteAt y0 y2.toNat).tmod 16 + 1)).toNat).size ≤
                        70368744177664) then
                  sl1Hex.L3 y0
                    (y1 ++
                        (ByteArray.mk #[48, 49, 50, 51, 52, 53, 54, 55, 56, 57, 97, 98, 99, 100, 101, 102]).extract
                          (IntKind.u8.wrap ((byteAt y0 y2.toNat).tdiv 16)).toNat (IntKind.u8.wrap (IntKind.u8.wrap ((byteAt y0 y2.toNat).tdiv 16) + 1)).toNat ++
                      (ByteArray.mk #[48, 49, 50, 51, 52, 53, 54, 55, 56, 57, 97, 98, 99, 100, 101, 102]).extract
                        ((byteAt y0 y2.toNat).tmod 16).toNat (IntKind.u8.wrap ((byteAt y0 y2.toNat).tmod 16 + 1)).toNat)
                    (IntKind.i64.wrap (y2 + 1))
                else none
              else none
            else none
          else none
        else none
      else none
    else none
  else none
else some (sl1Hex.x3 y1) := by
  refine (lpL_eq (Y := Y) (c := lim' Y) (fn := 54) (rid := 3) (b := bodyAt 3 sl1Hex.c) (by kernel_rfl) _).trans ?_
  delta sl1Hex.L3 sl1Hex.x3 XX
  generalize lpL (Y.ctx (lim' Y)) 54 = lp
  generalize lim' Y = call
  kernel_rfl
theorem sl1Hex.a3x3 (y0 : ByteArray) :
    sl1Hex.A3 (sl1Hex.x3 y0) =
    bif y0.toList == [] then some { cells := [TC.v (Value.string (ByteArray.mk #[45]))], objs := [] } else some { cells := [TC.v (Value.string y0)], objs := [] } := by
  delta sl1Hex.A3 sl1Hex.x3 XX
  generalize lpL (Y.ctx (lim' Y)) 54 = lp
  generalize lim' Y = call
  kernel_rfl


noncomputable def iunhex.L3 (y0 : ByteArray) (y1 : Int) (y2 : List (List D)) : Option (Ex × St) := lpL XX 56 (bodyAt 3 iunhex.c)
  (mkG 0 45 [(0, AV.one (A1.v (Value.string y0))), (3, AV.one (A1.r 3 [] 0)), (4, AV.one (A1.v (Value.int IntKind.i64 y1)))] [(3, some { kind := Kind.virt, row := [D.s y2], fl := [Own.deep] })] GL)
noncomputable def iunhex.A3 : Ex × St → Option Res := fun r => evA XX 56 (lpL XX 56) 3 iunhex.c r.fst r.snd (outE XX 56 Tryd.f56)
noncomputable def iunhex.P5 (y0 : ByteArray) (y1 : Int) (y2 : List (List D)) : Option (Ex × St) := evB XX 56 (lpL XX 56) 5 (bodyAt 3 iunhex.c)
  (mkG 0 45 [(0, AV.one (A1.v (Value.string y0))), (3, AV.one (A1.r 3 [] 0)), (4, AV.one (A1.v (Value.int IntKind.i64 y1)))] [(3, some { kind := Kind.virt, row := [D.s y2], fl := [Own.deep] })] GL)
  (backL (lpL XX 56) (bodyAt 3 iunhex.c) (XX.live 56 3))
noncomputable def iunhex.x3 (y0 : List (List D)) : Ex × St := (Ex.exit 0, mkG 0 45 [(3, AV.one (A1.r 3 [] 0))] [(3, some { kind := Kind.virt, row := [D.s y0], fl := [Own.deep] })] GL)
theorem iunhex.e (a0 : ByteArray) :
    iunhex [AV.one (A1.v (Value.string a0))] [] =
    (iunhex.L3 a0 0 []).bind iunhex.A3 := by
  refine (iunhex.run _ _ (by kernel_rfl)).trans ?_
  delta iunhex iunhex.L3 iunhex.A3 XX
  generalize lpL (Y.ctx (lim' Y)) 56 = lp
  generalize lim' Y = call
  kernel_rfl
theorem iunhex.s3 (y0 : ByteArray) (y1 : Int) (y2 : List (List D)) :
    iunhex.L3 y0 y1 y2 =
    bif decide (IntKind.i64.wrap (y1 + 1) < (↑y0.size : Int)) then
  bif decide (0 ≤ y1) && decide (y1 < (↑y0.size : Int)) then
    (inibble [AV.one (A1.v (Value.int IntKind.u8 (byteAt y0 y1.toNat)))] []).bind fun val =>
      bif fitsCells [R1.int IntKind.i64] val.1 && true then
        bif decide ((val.1.getD 0 TC.d).int ≥ 0) then
          bif decide (0 ≤ IntKind.i64.wrap (y1 + 1)) && decide (IntKind.i64.wrap (y1 + 1) < (↑y0.size : Int)) then
            (inibble [AV.one (A1.v (Value.int IntKind.u8 (byteAt y0 (IntKind.i64.wrap (y1 + 1)).toNat)))] []).bind fun val =>
              bif fitsCells [R1.int IntKind.i64] val.1 && true then bif decide ((val.1.getD 0 TC.d).int ≥ 0) then iunhex.P5 y0 y1 y2 else some (iunhex.x3 y2) else none
          else none
        else some (iunhex.x3 y2)
      else none
  else none
else some (iunhex.x3 y2) := by
  refine (lpL_eq (Y := Y) (c := lim' Y) (fn := 56) (rid := 3) (b := bodyAt 3 iunhex.c) (by kernel_rfl) _).trans ?_
  delta iunhex.L3 inibble iunhex.P5 iunhex.x3 XX
  refine join_use [5] (by kernel_rfl) fun J e1 => ?_
  try simp only [← e1]
  clear e1
  generalize lpL (Y.ctx (lim' Y)) 56 = lp
  generalize lim' Y = call
  kernel_rfl
theorem iunhex.p5 (y0 : ByteArray) (y1 : Int) (y2 : List (List D)) :
    iunhex.P5 y0 y1 y2 =
    bif decide (0 ≤ y1) && decide (y1 < (↑y0.size : Int)) then
  (inibble [AV.one (A1.v (Value.int IntKind.u8 (byteAt y0 y1.toNat)))] []).bind fun val =>
    bif fitsCells [R1.int IntKind.i64] val.1 && true then
      bif decide (0 ≤ IntKind.i64.wrap (y1 + 1)) && decide (IntKind.i64.wrap (y1 + 1) < (↑y0.size : Int)) then
        (inibble [AV.one (A1.v (Value.int IntKind.u8 (byteAt y0 (IntKind.i64.wrap (y1 + 1)).toNat)))] []).bind fun val_1 =>
          bif fitsCells [R1.int IntKind.i64] val_1.1 && true then
            bif rowsLen 1 y2 && true && true && true && decide ((y2.length + 1) * 2 ≤ 70368744177664) then
              iunhex.L3 y0 (IntKind.i64.wrap (y1 + 2))
                (y2 ++ [[D.v (Value.int IntKind.u8 (IntKind.u8.wrap (IntKind.i64.wrap (IntKind.i64.wrap (16 * (val.1.getD 0 TC.d).int) + (val_1.1.getD 0 TC.d).int))))]])
            else none
          else none
      else none
    else none
else none := by
  delta iunhex.P5 inibble iunhex.L3 XX
  refine join_at [5] 5 (by kernel_rfl) fun J e1 => ?_
  try simp only [← e1]
  clear e1
  generalize lpL (Y.ctx (lim' Y)) 56 = lp
  generalize lim' Y = call
  kernel_rfl
theorem iunhex.a3x3 (y0 : List (List D)) :
    iunhex.A3 (iunhex.x3 y0) =
    bif bytesB y0 then some { cells := [TC.v (Value.string (strOf y0))], objs := [] } else none := by
  delta iunhex.A3 iunhex.x3 XX
  generalize lpL (Y.ctx (lim' Y)) 56 = lp
  generalize lim' Y = call
  kernel_rfl


noncomputable def iCall_isCall.P2 (y0 : Bool) (y1 : Int) (y2 : List (List D)) (y3 : List (List D)) (y4 : Int) (y5 : ByteArray) : Option Res := evB XX 57 (lpL XX 57) 2 iCall_isCall.c
  (mkG 0 32 [(1, AV.one (A1.p true 1 [] 0)), (12, AV.one (A1.v (Value.bool y0)))]
    [(1,
        some
          { kind := Kind.box, row := [D.v (Value.int IntKind.i64 y1), D.s y2, D.s y3, D.v (Value.int IntKind.i64 y4), D.v (Value.string y5)], fl := [Own.deep, Own.sh, Own.sh, Own.deep, Own.deep] })]
    GL)
  (outE XX 57 Tryd.f57)
noncomputable def iCall_isCall.P3 (y0 : Int) (y1 : List (List D)) (y2 : List (List D)) (y3 : Int) (y4 : ByteArray) : Option Res := evB XX 57 (lpL XX 57) 3 iCall_isCall.c
  (mkG 0 32 [(1, AV.one (A1.p true 1 [] 0))]
    [(1,
        some
          { kind := Kind.box, row := [D.v (Value.int IntKind.i64 y0), D.s y1, D.s y2, D.v (Value.int IntKind.i64 y3), D.v (Value.string y4)], fl := [Own.deep, Own.sh, Own.sh, Own.deep, Own.deep] })]
    GL)
  (outE XX 57 Tryd.f57)
noncomputable def iCall_isCall.P6 (y0 : Int) (y1 : Bool) (y2 : Int) (y3 : List (List D)) (y4 : List (List D)) (y5 : Int) (y6 : ByteArray) : Option Res := evB XX 57 (lpL XX 57) 6 iCall_isCall.c
  (mkG 0 32 [(1, AV.one (A1.p true 1 [] 0)), (14, AV.one (A1.v (Value.int IntKind.i64 y0))), (15, AV.one (A1.v (Value.bool y1)))]
    [(1,
        some
          { kind := Kind.box, row := [D.v (Value.int IntKind.i64 y2), D.s y3, D.s y4, D.v (Value.int IntKind.i64 y5), D.v (Value.string y6)], fl := [Own.deep, Own.sh, Own.sh, Own.deep, Own.deep] })]
    GL)
  (outE XX 57 Tryd.f57)
noncomputable def iCall_isCall.P9 (y0 : Int) (y1 : Bool) (y2 : Int) (y3 : List (List D)) (y4 : List (List D)) (y5 : Int) (y6 : ByteArray) : Option Res := evB XX 57 (lpL XX 57) 9 iCall_isCall.c
  (mkG 0 32 [(1, AV.one (A1.p true 1 [] 0)), (14, AV.one (A1.v (Value.int IntKind.i64 y0))), (21, AV.one (A1.v (Value.bool y1)))]
    [(1,
        some
          { kind := Kind.box, row := [D.v (Value.int IntKind.i64 y2), D.s y3, D.s y4, D.v (Value.int IntKind.i64 y5), D.v (Value.string y6)], fl := [Own.deep, Own.sh, Own.sh, Own.deep, Own.deep] })]
    GL)
  (outE XX 57 Tryd.f57)
theorem iCall_isCall.e (a0 : Int) (a1 : List (List D)) (a2 : List (List D)) (a3 : Int) (a4 : ByteArray) :
    iCall_isCall [AV.g [A1.v (Value.int IntKind.i64 a0), A1.s a1, A1.s a2, A1.v (Value.int IntKind.i64 a3), A1.v (Value.string a4)]] [] =
    (iwithin [AV.one (A1.v (Value.int IntKind.i64 a0)), AV.one (A1.v (Value.int IntKind.i64 1)), AV.one (A1.v (Value.int IntKind.i64 6))] []).bind fun val =>
  bif fitsCells [R1.bool] val.1 && true then
    bif !(val.1.getD 0 TC.d).bool then iCall_isCall.P2 true a0 a1 a2 a3 a4
    else
      (inamesOk [AV.one (A1.s a1), AV.one (A1.v (Value.int IntKind.i64 1))] []).bind fun val =>
        bif fitsCells [R1.bool] val.1 && true then iCall_isCall.P2 (!(val.1.getD 0 TC.d).bool) a0 a1 a2 a3 a4 else none
  else none := by
  refine (iCall_isCall.run _ _ (by kernel_rfl)).trans ?_
  delta iCall_isCall iwithin iCall_isCall.P2 inamesOk XX
  refine join_use [2, 3, 6, 9] (by kernel_rfl) fun J e1 => ?_
  try simp only [← e1]
  clear e1
  generalize lpL (Y.ctx (lim' Y)) 57 = lp
  generalize lim' Y = call
  kernel_rfl
theorem iCall_isCall.p2 (y0 : Bool) (y1 : Int) (y2 : List (List D)) (y3 : List (List D)) (y4 : Int) (y5 : ByteArray) :
    iCall_isCall.P2 y0 y1 y2 y3 y4 y5 =
    bif y0 then some { cells := [TC.v (Value.bool false)], objs := [] } else iCall_isCall.P3 y1 y2 y3 y4 y5 := by
  delta iCall_isCall.P2 iCall_isCall.P3 XX
  refine join_at [2, 3, 6, 9] 2 (by kernel_rfl) fun J e1 => ?_
  try simp only [← e1]
  clear e1
  generalize lpL (Y.ctx (lim' Y)) 57 = lp
  generalize lim' Y = call
  kernel_rfl
theorem iCall_isCall.p3 (y0 : Int) (y1 : List (List D)) (y2 : List (List D)) (y3 : Int) (y4 : ByteArray) :
    iCall_isCall.P3 y0 y1 y2 y3 y4 =
    bif y0 == 1 then iCall_isCall.P6 y0 (y0 == 1) y0 y1 y2 y3 y4 else iCall_isCall.P6 y0 (y0 == 6) y0 y1 y2 y3 y4 := by
  delta iCall_isCall.P3 iCall_isCall.P6 XX
  refine join_at [2, 3, 6, 9] 3 (by kernel_rfl) fun J e1 => ?_
  try simp only [← e1]
  clear e1
  generalize lpL (Y.ctx (lim' Y)) 57 = lp
  generalize lim' Y = call
  kernel_rfl
theorem iCall_isCall.p6 (y0 : Int) (y1 : Bool) (y2 : Int) (y3 : List (List D)) (y4 : List (List D)) (y5 : Int) (y6 : ByteArray) :
    iCall_isCall.P6 y0 y1 y2 y3 y4 y5 y6 =
    bif y1 then
  (imodeOk [AV.one (A1.v (Value.int IntKind.i64 y5))] []).bind fun val =>
    bif fitsCells [R1.bool] val.1 && true then some { cells := [TC.v (Value.bool (val.1.getD 0 TC.d).bool)], objs := [] } else none
else bif y0 == 2 then iCall_isCall.P9 y0 (y0 == 2) y2 y3 y4 y5 y6 else iCall_isCall.P9 y0 (y0 == 3) y2 y3 y4 y5 y6 := by
  delta iCall_isCall.P6 imodeOk iCall_isCall.P9 XX
  refine join_at [2, 3, 6, 9] 6 (by kernel_rfl) fun J e1 => ?_
  try simp only [← e1]
  clear e1
  generalize lpL (Y.ctx (lim' Y)) 57 = lp
  generalize lim' Y = call
  kernel_rfl
theorem iCall_isCall.p9 (y0 : Int) (y1 : Bool) (y2 : Int) (y3 : List (List D)) (y4 : List (List D)) (y5 : Int) (y6 : ByteArray) :
    iCall_isCall.P9 y0 y1 y2 y3 y4 y5 y6 =
    bif y1 then
  (iwithin [AV.one (A1.v (Value.int IntKind.i64 y5)), AV.one (A1.v (Value.int IntKind.i64 0)), AV.one (A1.v (Value.int IntKind.i64 24))] []).bind fun val =>
    bif fitsCells [R1.bool] val.1 && true then some { cells := [TC.v (Value.bool (val.1.getD 0 TC.d).bool)], objs := [] } else none
else
  bif y0 == 5 then
    (inamesOk [AV.one (A1.s y4), AV.one (A1.v (Value.int IntKind.i64 1))] []).bind fun val =>
      bif fitsCells [R1.bool] val.1 && true then some { cells := [TC.v (Value.bool (val.1.getD 0 TC.d).bool)], objs := [] } else none
  else some { cells := [TC.v (Value.bool true)], objs := [] } := by
  delta iCall_isCall.P9 iwithin inamesOk XX
  refine join_at [2, 3, 6, 9] 9 (by kernel_rfl) fun J e1 => ?_
  try simp only [← e1]
  clear e1
  generalize lpL (Y.ctx (lim' Y)) 57 = lp
  generalize lim' Y = call
  kernel_rfl


theorem idataText.e (a0 : ByteArray) :
    idataText [AV.one (A1.v (Value.string a0))] [] =
    bif a0.toList == [] then some { cells := [TC.v (Value.string (ByteArray.mk #[45]))], objs := [] }
else (ihexOf [AV.one (A1.v (Value.string a0))] []).bind fun val => bif fitsCells [R1.str] val.1 && true then some { cells := [TC.v (Value.string (val.1.getD 0 TC.d).str)], objs := [] } else none := by
  refine (idataText.run _ _ (by kernel_rfl)).trans ?_
  delta idataText ihexOf XX
  generalize lpL (Y.ctx (lim' Y)) 58 = lp
  generalize lim' Y = call
  kernel_rfl


noncomputable def wmarkText.L4 (y0 : Int) (y1 : ByteArray) : Option (Ex × St) := lpL XX 59 (bodyAt 4 wmarkText.c) (mkG 0 20 [(0, AV.one (A1.v (Value.int IntKind.i64 y0))), (3, AV.one (A1.v (Value.string y1)))] [] GL)
noncomputable def wmarkText.A4 : Ex × St → Option Res := fun r => evA XX 59 (lpL XX 59) 4 wmarkText.c r.fst r.snd (outE XX 59 Tryd.f59)
noncomputable def wmarkText.x4 (y0 : ByteArray) : Ex × St := (Ex.exit 0, mkG 0 20 [(3, AV.one (A1.v (Value.string y0)))] [] GL)
theorem wmarkText.e (a0 : Int) :
    wmarkText [AV.one (A1.v (Value.int IntKind.i64 a0))] [] =
    bif decide (a0 ≤ 0) then some { cells := [TC.v (Value.string (ByteArray.mk #[109, 48]))], objs := [] } else (wmarkText.L4 a0 (ByteArray.mk #[])).bind wmarkText.A4 := by
  refine (wmarkText.run _ _ (by kernel_rfl)).trans ?_
  delta wmarkText wmarkText.L4 wmarkText.A4 XX
  generalize lpL (Y.ctx (lim' Y)) 59 = lp
  generalize lim' Y = call
  kernel_rfl
theorem wmarkText.s4 (y0 : Int) (y1 : ByteArray) :
    wmarkText.L4 y0 y1 =
    bif decide (y0 > 0) then
  bif decide (1 + y1.size ≤ 70368744177664) then wmarkText.L4 (IntKind.i64.wrap (y0.tdiv 10)) (strOf [[D.v (Value.int IntKind.u8 (IntKind.u8.wrap (IntKind.i64.wrap (48 + y0.tmod 10))))]] ++ y1)
  else none
else some (wmarkText.x4 y1) := by
  refine (lpL_eq (Y := Y) (c := lim' Y) (fn := 59) (rid := 4) (b := bodyAt 4 wmarkText.c) (by kernel_rfl) _).trans ?_
  delta wmarkText.L4 wmarkText.x4 XX
  generalize lpL (Y.ctx (lim' Y)) 59 = lp
  generalize lim' Y = call
  kernel_rfl
theorem wmarkText.a4x4 (y0 : ByteArray) :
    wmarkText.A4 (wmarkText.x4 y0) =
    bif decide (1 + y0.size ≤ 70368744177664) then some { cells := [TC.v (Value.string ((ByteArray.mk #[109]) ++ y0))], objs := [] } else none := by
  delta wmarkText.A4 wmarkText.x4 XX
  generalize lpL (Y.ctx (lim' Y)) 59 = lp
  generalize lim' Y = call
  kernel_rfl


noncomputable def sl1NameOk.L2 (y0 : ByteArray) (y1 : Int) : Option (Ex × St) := lpL XX 60 (bodyAt 2 sl1NameOk.c) (mkG 0 36 [(0, AV.one (A1.v (Value.string y0))), (3, AV.one (A1.v (Value.int IntKind.i64 y1)))] [] GL)
noncomputable def sl1NameOk.A2 : Ex × St → Option Res := fun r => evA XX 60 (lpL XX 60) 2 sl1NameOk.c r.fst r.snd (outE XX 60 Tryd.f60)
noncomputable def sl1NameOk.P5 (y0 : ByteArray) (y1 : Int) (y2 : Bool) : Option (Ex × St) := evB XX 60 (lpL XX 60) 5 (bodyAt 2 sl1NameOk.c) (mkG 0 36 [(0, AV.one (A1.v (Value.string y0))), (3, AV.one (A1.v (Value.int IntKind.i64 y1))), (32, AV.one (A1.v (Value.bool y2)))] [] GL)
  (backL (lpL XX 60) (bodyAt 2 sl1NameOk.c) (XX.live 60 2))
noncomputable def sl1NameOk.x2 (y0 : ByteArray) : Ex × St := (Ex.exit 0, mkG 0 36 [(0, AV.one (A1.v (Value.string y0)))] [] GL)
noncomputable def sl1NameOk.q2 (y0 : ByteArray) (y1 : Bool) : Ex × St := (Ex.ret, mkG 0 36 [(0, AV.one (A1.v (Value.string y0))), (2, AV.one (A1.v (Value.bool y1)))] [] GL)
theorem sl1NameOk.e (a0 : ByteArray) :
    sl1NameOk [AV.one (A1.v (Value.string a0))] [] =
    (sl1NameOk.L2 a0 0).bind sl1NameOk.A2 := by
  refine (sl1NameOk.run _ _ (by kernel_rfl)).trans ?_
  delta sl1NameOk sl1NameOk.L2 sl1NameOk.A2 XX
  generalize lpL (Y.ctx (lim' Y)) 60 = lp
  generalize lim' Y = call
  kernel_rfl
theorem sl1NameOk.s2 (y0 : ByteArray) (y1 : Int) :
    sl1NameOk.L2 y0 y1 =
    bif decide (y1 < (↑y0.size : Int)) then
  bif decide (0 ≤ y1) && decide (y1 < (↑y0.size : Int)) then
    bif decide (byteAt y0 y1.toNat ≥ 97) then
      bif decide (0 ≤ y1) && decide (y1 < (↑y0.size : Int)) then
        bif decide (byteAt y0 y1.toNat ≤ 122) then sl1NameOk.P5 y0 y1 false
        else
          bif decide (0 ≤ y1) && decide (y1 < (↑y0.size : Int)) then
            bif decide (byteAt y0 y1.toNat ≥ 48) then bif decide (0 ≤ y1) && decide (y1 < (↑y0.size : Int)) then sl1NameOk.P5 y0 y1 !decide (byteAt y0 y1.toNat ≤ 57) else none
            else sl1NameOk.P5 y0 y1 true
          else none
      else none
    else
      bif decide (0 ≤ y1) && decide (y1 < (↑y0.size : Int)) then
        bif decide (byteAt y0 y1.toNat ≥ 48) then bif decide (0 ≤ y1) && decide (y1 < (↑y0.size : Int)) then sl1NameOk.P5 y0 y1 !decide (byteAt y0 y1.toNat ≤ 57) else none else sl1NameOk.P5 y0 y1 true
      else none
  else none
else some (sl1NameOk.x2 y0) := by
  refine (lpL_eq (Y := Y) (c := lim' Y) (fn := 60) (rid := 2) (b := bodyAt 2 sl1NameOk.c) (by kernel_rfl) _).trans ?_
  delta sl1NameOk.L2 sl1NameOk.P5 sl1NameOk.x2 XX
  refine join_use [5] (by kernel_rfl) fun J e1 => ?_
  try simp only [← e1]
  clear e1
  generalize lpL (Y.ctx (lim' Y)) 60 = lp
  generalize lim' Y = call
  kernel_rfl
theorem sl1NameOk.p5 (y0 : ByteArray) (y1 : Int) (y2 : Bool) :
    sl1NameOk.P5 y0 y1 y2 =
    bif y2 then some (sl1NameOk.q2 y0 false) else sl1NameOk.L2 y0 (IntKind.i64.wrap (y1 + 1)) := by
  delta sl1NameOk.P5 sl1NameOk.q2 sl1NameOk.L2 XX
  refine join_at [5] 5 (by kernel_rfl) fun J e1 => ?_
  try simp only [← e1]
  clear e1
  generalize lpL (Y.ctx (lim' Y)) 60 = lp
  generalize lim' Y = call
  kernel_rfl
theorem sl1NameOk.a2x2 (y0 : ByteArray) :
    sl1NameOk.A2 (sl1NameOk.x2 y0) =
    (sl1In [AV.one (A1.v (Value.int IntKind.i64 (↑y0.size : Int))), AV.one (A1.v (Value.int IntKind.i64 1)), AV.one (A1.v (Value.int IntKind.i64 5))] []).bind fun val =>
  bif fitsCells [R1.bool] val.1 && true then some { cells := [TC.v (Value.bool (val.1.getD 0 TC.d).bool)], objs := [] } else none := by
  delta sl1NameOk.A2 sl1NameOk.x2 sl1In XX
  generalize lpL (Y.ctx (lim' Y)) 60 = lp
  generalize lim' Y = call
  kernel_rfl
theorem sl1NameOk.a2q2 (y0 : ByteArray) (y1 : Bool) :
    sl1NameOk.A2 (sl1NameOk.q2 y0 y1) =
    some { cells := [TC.v (Value.bool y1)], objs := [] } := by
  delta sl1NameOk.A2 sl1NameOk.q2 XX
  generalize lpL (Y.ctx (lim' Y)) 60 = lp
  generalize lim' Y = call
  kernel_rfl


noncomputable def inamesOk.L2 (y0 : List (List D)) (y1 : Int) (y2 : List (List D)) (y3 : Int) (y4 : Int) : Option (Ex × St) := lpL XX 65 (bodyAt 2 inamesOk.c)
  (mkG 0 21 [(0, AV.one (A1.s y0)), (1, AV.one (A1.v (Value.int IntKind.i64 y1))), (7, AV.one (A1.s y2)), (8, AV.one (A1.v (Value.int IntKind.i64 y3))), (9, AV.one (A1.v (Value.int IntKind.i64 y4)))]
    [] GL)
noncomputable def inamesOk.A2 : Ex × St → Option Res := fun r => evA XX 65 (lpL XX 65) 2 inamesOk.c r.fst r.snd (outE XX 65 Tryd.f65)
noncomputable def inamesOk.q2 (y0 : List (List D)) (y1 : Int) (y2 : Bool) : Ex × St := (Ex.ret, mkG 0 21 [(0, AV.one (A1.s y0)), (1, AV.one (A1.v (Value.int IntKind.i64 y1))), (4, AV.one (A1.v (Value.bool y2)))] [] GL)
noncomputable def inamesOk.x2 (y0 : List (List D)) (y1 : Int) : Ex × St := (Ex.exit 0, mkG 0 21 [(0, AV.one (A1.s y0)), (1, AV.one (A1.v (Value.int IntKind.i64 y1)))] [] GL)
theorem inamesOk.e (a0 : List (List D)) (a1 : Int) :
    inamesOk [AV.one (A1.s a0), AV.one (A1.v (Value.int IntKind.i64 a1))] [] =
    (inamesOk.L2 a0 a1 a0 (↑a0.length : Int) 0).bind inamesOk.A2 := by
  refine (inamesOk.run _ _ (by kernel_rfl)).trans ?_
  delta inamesOk inamesOk.L2 inamesOk.A2 XX
  generalize lpL (Y.ctx (lim' Y)) 65 = lp
  generalize lim' Y = call
  kernel_rfl
theorem inamesOk.s2 (y0 : List (List D)) (y1 : Int) (y2 : List (List D)) (y3 : Int) (y4 : Int) :
    inamesOk.L2 y0 y1 y2 y3 y4 =
    bif decide (y4 < y3) then
  bif decide (0 ≤ y4) && decide (y4 < (↑y2.length : Int)) && decide ((y2.getD y4.toNat []).length = 1) then
    bif fitsRow [CK.str] (y2.getD y4.toNat []) 0 && decide (1 ≤ (y2.getD y4.toNat []).length) then
      (inameOk [AV.one (A1.v (Value.string ((y2.getD y4.toNat []).getD 0 D.h).str))] []).bind fun val =>
        bif fitsCells [R1.bool] val.1 && true then bif !(val.1.getD 0 TC.d).bool then some (inamesOk.q2 y0 y1 false) else inamesOk.L2 y0 y1 y2 y3 (IntKind.i64.wrap (y4 + 1)) else none
    else none
  else none
else some (inamesOk.x2 y0 y1) := by
  refine (lpL_eq (Y := Y) (c := lim' Y) (fn := 65) (rid := 2) (b := bodyAt 2 inamesOk.c) (by kernel_rfl) _).trans ?_
  delta inamesOk.L2 inameOk inamesOk.q2 inamesOk.x2 XX
  generalize lpL (Y.ctx (lim' Y)) 65 = lp
  generalize lim' Y = call
  kernel_rfl
theorem inamesOk.a2q2 (y0 : List (List D)) (y1 : Int) (y2 : Bool) :
    inamesOk.A2 (inamesOk.q2 y0 y1 y2) =
    some { cells := [TC.v (Value.bool y2)], objs := [] } := by
  delta inamesOk.A2 inamesOk.q2 XX
  generalize lpL (Y.ctx (lim' Y)) 65 = lp
  generalize lim' Y = call
  kernel_rfl
theorem inamesOk.a2x2 (y0 : List (List D)) (y1 : Int) :
    inamesOk.A2 (inamesOk.x2 y0 y1) =
    (iwithin [AV.one (A1.v (Value.int IntKind.i64 (↑y0.length : Int))), AV.one (A1.v (Value.int IntKind.i64 y1)), AV.one (A1.v (Value.int IntKind.i64 4))] []).bind fun val =>
  bif fitsCells [R1.bool] val.1 && true then some { cells := [TC.v (Value.bool (val.1.getD 0 TC.d).bool)], objs := [] } else none := by
  delta inamesOk.A2 inamesOk.x2 iwithin XX
  generalize lpL (Y.ctx (lim' Y)) 65 = lp
  generalize lim' Y = call
  kernel_rfl


theorem iwithin.e (a0 : Int) (a1 : Int) (a2 : Int) :
    iwithin [AV.one (A1.v (Value.int IntKind.i64 a0)), AV.one (A1.v (Value.int IntKind.i64 a1)), AV.one (A1.v (Value.int IntKind.i64 a2))] [] =
    bif decide (a0 ≥ a1) then some { cells := [TC.v (Value.bool (decide (a0 ≤ a2)))], objs := [] } else some { cells := [TC.v (Value.bool false)], objs := [] } := by
  refine (iwithin.run _ _ (by kernel_rfl)).trans ?_
  delta iwithin XX
  generalize lpL (Y.ctx (lim' Y)) 67 = lp
  generalize lim' Y = call
  kernel_rfl


noncomputable def inibble.P2 (y0 : Int) (y1 : Bool) : Option Res := evB XX 73 (lpL XX 73) 2 inibble.c (mkG 0 35 [(0, AV.one (A1.v (Value.int IntKind.u8 y0))), (3, AV.one (A1.v (Value.bool y1)))] [] GL) (outE XX 73 Tryd.f73)
noncomputable def inibble.P4 (y0 : Int) (y1 : Bool) : Option Res := evB XX 73 (lpL XX 73) 4 inibble.c (mkG 0 35 [(0, AV.one (A1.v (Value.int IntKind.u8 y0))), (13, AV.one (A1.v (Value.bool y1)))] [] GL) (outE XX 73 Tryd.f73)
noncomputable def inibble.P6 (y0 : Int) (y1 : Bool) : Option Res := evB XX 73 (lpL XX 73) 6 inibble.c (mkG 0 35 [(0, AV.one (A1.v (Value.int IntKind.u8 y0))), (24, AV.one (A1.v (Value.bool y1)))] [] GL) (outE XX 73 Tryd.f73)
theorem inibble.e (a0 : Int) :
    inibble [AV.one (A1.v (Value.int IntKind.u8 a0))] [] =
    bif decide (a0 ≥ 48) then inibble.P2 a0 (decide (a0 ≤ 57)) else inibble.P2 a0 false := by
  refine (inibble.run _ _ (by kernel_rfl)).trans ?_
  delta inibble inibble.P2 XX
  refine join_use [2, 4, 6] (by kernel_rfl) fun J e1 => ?_
  try simp only [← e1]
  clear e1
  generalize lpL (Y.ctx (lim' Y)) 73 = lp
  generalize lim' Y = call
  kernel_rfl
theorem inibble.p2 (y0 : Int) (y1 : Bool) :
    inibble.P2 y0 y1 =
    bif y1 then some { cells := [TC.v (Value.int IntKind.i64 (IntKind.i64.wrap (IntKind.u8.wrap (y0 - 48))))], objs := [] }
else bif decide (y0 ≥ 97) then inibble.P4 y0 (decide (y0 ≤ 102)) else inibble.P4 y0 false := by
  delta inibble.P2 inibble.P4 XX
  refine join_at [2, 4, 6] 2 (by kernel_rfl) fun J e1 => ?_
  try simp only [← e1]
  clear e1
  generalize lpL (Y.ctx (lim' Y)) 73 = lp
  generalize lim' Y = call
  kernel_rfl
theorem inibble.p4 (y0 : Int) (y1 : Bool) :
    inibble.P4 y0 y1 =
    bif y1 then some { cells := [TC.v (Value.int IntKind.i64 (IntKind.i64.wrap (IntKind.i64.wrap (IntKind.u8.wrap (y0 - 97)) + 10)))], objs := [] }
else bif decide (y0 ≥ 65) then inibble.P6 y0 (decide (y0 ≤ 70)) else inibble.P6 y0 false := by
  delta inibble.P4 inibble.P6 XX
  refine join_at [2, 4, 6] 4 (by kernel_rfl) fun J e1 => ?_
  try simp only [← e1]
  clear e1
  generalize lpL (Y.ctx (lim' Y)) 73 = lp
  generalize lim' Y = call
  kernel_rfl
theorem inibble.p6 (y0 : Int) (y1 : Bool) :
    inibble.P6 y0 y1 =
    bif y1 then some { cells := [TC.v (Value.int IntKind.i64 (IntKind.i64.wrap (IntKind.i64.wrap (IntKind.u8.wrap (y0 - 65)) + 10)))], objs := [] }
else some { cells := [TC.v (Value.int IntKind.i64 (-1))], objs := [] } := by
  delta inibble.P6 XX
  refine join_at [2, 4, 6] 6 (by kernel_rfl) fun J e1 => ?_
  try simp only [← e1]
  clear e1
  generalize lpL (Y.ctx (lim' Y)) 73 = lp
  generalize lim' Y = call
  kernel_rfl


theorem imodeOk.e (a0 : Int) :
    imodeOk [AV.one (A1.v (Value.int IntKind.i64 a0))] [] =
    (iwithin [AV.one (A1.v (Value.int IntKind.i64 a0)), AV.one (A1.v (Value.int IntKind.i64 0)), AV.one (A1.v (Value.int IntKind.i64 7))] []).bind fun val =>
  bif fitsCells [R1.bool] val.1 && true then some { cells := [TC.v (Value.bool (val.1.getD 0 TC.d).bool)], objs := [] } else none := by
  refine (imodeOk.run _ _ (by kernel_rfl)).trans ?_
  delta imodeOk iwithin XX
  generalize lpL (Y.ctx (lim' Y)) 74 = lp
  generalize lim' Y = call
  kernel_rfl


noncomputable def ihexOf.L3 (y0 : ByteArray) (y1 : Int) (y2 : List (List D)) : Option (Ex × St) := lpL XX 75 (bodyAt 3 ihexOf.c)
  (mkG 0 27 [(0, AV.one (A1.v (Value.string y0))), (3, AV.one (A1.r 3 [] 0)), (4, AV.one (A1.v (Value.int IntKind.i64 y1)))] [(3, some { kind := Kind.virt, row := [D.s y2], fl := [Own.deep] })] GL)
noncomputable def ihexOf.A3 : Ex × St → Option Res := fun r => evA XX 75 (lpL XX 75) 3 ihexOf.c r.fst r.snd (outE XX 75 Tryd.f75)
noncomputable def ihexOf.x3 (y0 : List (List D)) : Ex × St := (Ex.exit 0, mkG 0 27 [(3, AV.one (A1.r 3 [] 0))] [(3, some { kind := Kind.virt, row := [D.s y0], fl := [Own.deep] })] GL)
theorem ihexOf.e (a0 : ByteArray) :
    ihexOf [AV.one (A1.v (Value.string a0))] [] =
    (ihexOf.L3 a0 0 []).bind ihexOf.A3 := by
  refine (ihexOf.run _ _ (by kernel_rfl)).trans ?_
  delta ihexOf ihexOf.L3 ihexOf.A3 XX
  generalize lpL (Y.ctx (lim' Y)) 75 = lp
  generalize lim' Y = call
  kernel_rfl
theorem ihexOf.s3 (y0 : ByteArray) (y1 : Int) (y2 : List (List D)) :
    ihexOf.L3 y0 y1 y2 =
    bif decide (y1 < (↑y0.size : Int)) then
  bif decide (0 ≤ y1) && decide (y1 < (↑y0.size : Int)) then
    bif decide (IntKind.u8.wrap ((byteAt y0 y1.toNat).tdiv 16) < (↑(ByteArray.mk #[48, 49, 50, 51, 52, 53, 54, 55, 56, 57, 97, 98, 99, 100, 101, 102]).size : Int)) then
      bif decide (0 ≤ y1) && decide (y1 < (↑y0.size : Int)) then
        bif decide ((byteAt y0 y1.toNat).tmod 16 < (↑(ByteArray.mk #[48, 49, 50, 51, 52, 53, 54, 55, 56, 57, 97, 98, 99, 100, 101, 102]).size : Int)) then
          bif rowsLen 1 y2 && true && true && true && decide ((y2.length + 2) * 2 ≤ 70368744177664) then
            ihexOf.L3 y0 (IntKind.i64.wrap (y1 + 1))
              (y2 ++
                [[D.v
                      (Value.int IntKind.u8
                        (byteAt
                          (ByteArray.mk #[48, 49, 50, 51, 52, 53, 54, 55, 56, 57, 97, 98, 99, 100, 101, 102])
                          (IntKind.u8.wrap ((byteAt y0 y1.toNat).tdiv 16)).toNat))],
                  [D.v
                      (Value.int IntKind.u8
                        (byteAt
                          (ByteArray.mk #[48, 49, 50, 51, 52, 53, 54, 55, 56, 57, 97, 98, 99, 100, 101, 102])
                          ((byteAt y0 y1.toNat).tmod 16).toNat))]])
          else none
        else none
      else none
    else none
  else none
else some (ihexOf.x3 y2) := by
  refine (lpL_eq (Y := Y) (c := lim' Y) (fn := 75) (rid := 3) (b := bodyAt 3 ihexOf.c) (by kernel_rfl) _).trans ?_
  delta ihexOf.L3 ihexOf.x3 XX
  generalize lpL (Y.ctx (lim' Y)) 75 = lp
  generalize lim' Y = call
  kernel_rfl
theorem ihexOf.a3x3 (y0 : List (List D)) :
    ihexOf.A3 (ihexOf.x3 y0) =
    bif bytesB y0 then some { cells := [TC.v (Value.string (strOf y0))], objs := [] } else none := by
  delta ihexOf.A3 ihexOf.x3 XX
  generalize lpL (Y.ctx (lim' Y)) 75 = lp
  generalize lim' Y = call
  kernel_rfl


noncomputable def inameOk.L2 (y0 : ByteArray) (y1 : Int) (y2 : Int) : Option (Ex × St) := lpL XX 86 (bodyAt 2 inameOk.c) (mkG 0 35 [(0, AV.one (A1.v (Value.string y0))), (5, AV.one (A1.v (Value.int IntKind.i64 y1))), (6, AV.one (A1.v (Value.int IntKind.i64 y2)))] [] GL)
noncomputable def inameOk.A2 : Ex × St → Option Res := fun r => evA XX 86 (lpL XX 86) 2 inameOk.c r.fst r.snd (outE XX 86 Tryd.f86)
noncomputable def inameOk.P5 (y0 : ByteArray) (y1 : Int) (y2 : Int) (y3 : Bool) : Option (Ex × St) := evB XX 86 (lpL XX 86) 5 (bodyAt 2 inameOk.c)
  (mkG 0 35 [(0, AV.one (A1.v (Value.string y0))), (5, AV.one (A1.v (Value.int IntKind.i64 y1))), (6, AV.one (A1.v (Value.int IntKind.i64 y2))), (30, AV.one (A1.v (Value.bool y3)))] [] GL)
  (backL (lpL XX 86) (bodyAt 2 inameOk.c) (XX.live 86 2))
noncomputable def inameOk.x2 (y0 : ByteArray) : Ex × St := (Ex.exit 0, mkG 0 35 [(0, AV.one (A1.v (Value.string y0)))] [] GL)
noncomputable def inameOk.q2 (y0 : ByteArray) (y1 : Bool) : Ex × St := (Ex.ret, mkG 0 35 [(0, AV.one (A1.v (Value.string y0))), (2, AV.one (A1.v (Value.bool y1)))] [] GL)
theorem inameOk.e (a0 : ByteArray) :
    inameOk [AV.one (A1.v (Value.string a0))] [] =
    (inameOk.L2 a0 (↑a0.size : Int) 0).bind inameOk.A2 := by
  refine (inameOk.run _ _ (by kernel_rfl)).trans ?_
  delta inameOk inameOk.L2 inameOk.A2 XX
  generalize lpL (Y.ctx (lim' Y)) 86 = lp
  generalize lim' Y = call
  kernel_rfl
theorem inameOk.s2 (y0 : ByteArray) (y1 : Int) (y2 : Int) :
    inameOk.L2 y0 y1 y2 =
    bif decide (y2 < y1) then
  bif decide (0 ≤ y2) && decide (y2 < (↑y0.size : Int)) then
    bif decide (byteAt y0 y2.toNat < 97) then
      bif decide (0 ≤ y2) && decide (y2 < (↑y0.size : Int)) then
        bif decide (byteAt y0 y2.toNat < 48) then inameOk.P5 y0 y1 y2 true
        else bif decide (0 ≤ y2) && decide (y2 < (↑y0.size : Int)) then inameOk.P5 y0 y1 y2 (decide (byteAt y0 y2.toNat > 57)) else none
      else none
    else
      bif decide (0 ≤ y2) && decide (y2 < (↑y0.size : Int)) then
        bif decide (byteAt y0 y2.toNat > 122) then
          bif decide (0 ≤ y2) && decide (y2 < (↑y0.size : Int)) then
            bif decide (byteAt y0 y2.toNat < 48) then inameOk.P5 y0 y1 y2 true
            else bif decide (0 ≤ y2) && decide (y2 < (↑y0.size : Int)) then inameOk.P5 y0 y1 y2 (decide (byteAt y0 y2.toNat > 57)) else none
          else none
        else inameOk.P5 y0 y1 y2 false
      else none
  else none
else some (inameOk.x2 y0) := by
  refine (lpL_eq (Y := Y) (c := lim' Y) (fn := 86) (rid := 2) (b := bodyAt 2 inameOk.c) (by kernel_rfl) _).trans ?_
  delta inameOk.L2 inameOk.P5 inameOk.x2 XX
  refine join_use [5] (by kernel_rfl) fun J e1 => ?_
  try simp only [← e1]
  clear e1
  generalize lpL (Y.ctx (lim' Y)) 86 = lp
  generalize lim' Y = call
  kernel_rfl
theorem inameOk.p5 (y0 : ByteArray) (y1 : Int) (y2 : Int) (y3 : Bool) :
    inameOk.P5 y0 y1 y2 y3 =
    bif y3 then some (inameOk.q2 y0 false) else inameOk.L2 y0 y1 (IntKind.i64.wrap (y2 + 1)) := by
  delta inameOk.P5 inameOk.q2 inameOk.L2 XX
  refine join_at [5] 5 (by kernel_rfl) fun J e1 => ?_
  try simp only [← e1]
  clear e1
  generalize lpL (Y.ctx (lim' Y)) 86 = lp
  generalize lim' Y = call
  kernel_rfl
theorem inameOk.a2x2 (y0 : ByteArray) :
    inameOk.A2 (inameOk.x2 y0) =
    (iwithin [AV.one (A1.v (Value.int IntKind.i64 (↑y0.size : Int))), AV.one (A1.v (Value.int IntKind.i64 1)), AV.one (A1.v (Value.int IntKind.i64 5))] []).bind fun val =>
  bif fitsCells [R1.bool] val.1 && true then some { cells := [TC.v (Value.bool (val.1.getD 0 TC.d).bool)], objs := [] } else none := by
  delta inameOk.A2 inameOk.x2 iwithin XX
  generalize lpL (Y.ctx (lim' Y)) 86 = lp
  generalize lim' Y = call
  kernel_rfl
theorem inameOk.a2q2 (y0 : ByteArray) (y1 : Bool) :
    inameOk.A2 (inameOk.q2 y0 y1) =
    some { cells := [TC.v (Value.bool y1)], objs := [] } := by
  delta inameOk.A2 inameOk.q2 XX
  generalize lpL (Y.ctx (lim' Y)) 86 = lp
  generalize lim' Y = call
  kernel_rfl


end Go.PVx
