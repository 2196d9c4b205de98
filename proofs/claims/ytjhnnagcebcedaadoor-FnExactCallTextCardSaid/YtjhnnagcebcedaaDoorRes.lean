/- A part of the proof: PvERes. -/
import Derived.Test.YtjhnnagcebcedaaDoorTab
import Derived.KernelRfl
set_option linter.unusedSimpArgs false
set_option linter.unusedVariables false
/- PRINTED by a tool of this work (wip/pv/tool/gen2.py): what each function's code comes to. -/
namespace Go.PVx
open Go.PV Go.Proofs
set_option maxRecDepth 100000
set_option linter.unusedVariables false
noncomputable def wFnExactCallText.P4 (y0 : Int) (y1 : List (List D)) (y2 : List (List D)) (y3 : Int) (y4 : ByteArray) : Option Res := evK XX 3 (lpL XX 3) (dropC 4 wFnExactCallText.c)
  (mkG 0 27 [(1, AV.one (A1.p true 1 [] 0))]
    [(1,
        some
          { kind := Kind.box, row := [D.v (Value.int IntKind.i64 y0), D.s y1, D.s y2, D.v (Value.int IntKind.i64 y3), D.v (Value.string y4)], fl := [Own.deep, Own.sh, Own.sh, Own.deep, Own.deep] })]
    GL)
  (outE XX 3 Tryd.f3)
noncomputable def wFnExactCallText.P6 (y0 : ByteArray) (y1 : Int) (y2 : List (List D)) (y3 : List (List D)) (y4 : Int) (y5 : ByteArray) (y6 : Int) (y7 : List (List D)) (y8 : List (List D)) (y9 : Int) (y10 : ByteArray) : Option Res := evK XX 3 (lpL XX 3) (dropC 6 wFnExactCallText.c)
  (mkG 0 27 [(1, AV.one (A1.p true 1 [] 0)), (4, AV.one (A1.v (Value.string y0))), (5, AV.one (A1.p true 5 [] 0))]
    [(1,
        some
          { kind := Kind.box, row := [D.v (Value.int IntKind.i64 y1), D.s y2, D.s y3, D.v (Value.int IntKind.i64 y4), D.v (Value.string y5)], fl := [Own.deep, Own.sh, Own.sh, Own.deep, Own.deep] }),
      (5,
        some
          { kind := Kind.box, row := [D.v (Value.int IntKind.i64 y6), D.s y7, D.s y8, D.v (Value.int IntKind.i64 y9), D.v (Value.string y10)],
            fl := [Own.deep, Own.deep, Own.deep, Own.deep, Own.deep] })]
    GL)
  (outE XX 3 Tryd.f3)
noncomputable def wFnExactCallText.P9 : Option Res := evK XX 3 (lpL XX 3) (dropC 9 wFnExactCallText.c) (mkG 0 27 [] [] GL) (outE XX 3 Tryd.f3)
theorem wFnExactCallText.e (a0 : Int) (a1 : List (List D)) (a2 : List (List D)) (a3 : Int) (a4 : ByteArray) :
    wFnExactCallText [AV.g [A1.v (Value.int IntKind.i64 a0), A1.s a1, A1.s a2, A1.v (Value.int IntKind.i64 a3), A1.v (Value.string a4)]] [] =
    (wszCall [AV.g [A1.v (Value.int IntKind.i64 a0), A1.s a1, A1.s a2, A1.v (Value.int IntKind.i64 a3), A1.v (Value.string a4)], AV.one (A1.v (Value.int IntKind.i64 1048576))] []).bind fun val =>
  bif fitsCells [R1.int IntKind.i64] val.1 && true then bif decide ((val.1.getD 0 TC.d).int < 0) then some { cells := [TC.v (Value.bool true)], objs := [] } else wFnExactCallText.P4 a0 a1 a2 a3 a4
  else none := by
  refine (wFnExactCallText.run _ _ (by kernel_rfl)).trans ?_
  delta wFnExactCallText wszCall wFnExactCallText.P4 XX
  refine cut_use0 3 4 rfl (wFnExactCallText.c) (by kernel_rfl) fun K e1 => ?_
  try simp only [← e1]
  clear e1
  generalize lpL (Y.ctx (lim' Y)) 3 = lp
  generalize lim' Y = call
  kernel_rfl
theorem wFnExactCallText.p4 (y0 : Int) (y1 : List (List D)) (y2 : List (List D)) (y3 : Int) (y4 : ByteArray) :
    wFnExactCallText.P4 y0 y1 y2 y3 y4 =
    (wtoCall [AV.g [A1.v (Value.int IntKind.i64 y0), A1.s y1, A1.s y2, A1.v (Value.int IntKind.i64 y3), A1.v (Value.string y4)]] []).bind fun val =>
  bif fitsCells [R1.int IntKind.i64, R1.own Own.deep, R1.own Own.deep, R1.int IntKind.i64, R1.str] val.1 && true then
    (sCallText
          [AV.g
              [A1.v (Value.int IntKind.i64 (val.1.getD 0 TC.d).int), A1.s (val.1.getD 1 TC.d).es, A1.s (val.1.getD 2 TC.d).es, A1.v (Value.int IntKind.i64 (val.1.getD 3 TC.d).int),
                A1.v (Value.string (val.1.getD 4 TC.d).str)]]
          []).bind
      fun val =>
      bif fitsCells [R1.str] val.1 && true then
        (wtoCall [AV.g [A1.v (Value.int IntKind.i64 y0), A1.s y1, A1.s y2, A1.v (Value.int IntKind.i64 y3), A1.v (Value.string y4)]] []).bind fun val_1 =>
          bif fitsCells [R1.int IntKind.i64, R1.own Own.deep, R1.own Own.deep, R1.int IntKind.i64, R1.str] val_1.1 && true then
            wFnExactCallText.P6 (val.1.getD 0 TC.d).str y0 y1 y2 y3 y4 (val_1.1.getD 0 TC.d).int (val_1.1.getD 1 TC.d).es (val_1.1.getD 2 TC.d).es (val_1.1.getD 3 TC.d).int (val_1.1.getD 4 TC.d).str
          else none
      else none
  else none := by
  delta wFnExactCallText.P4 wtoCall sCallText wFnExactCallText.P6 XX
  refine cut_use 4 1 6 rfl (wFnExactCallText.c) (by kernel_rfl) fun K e1 => ?_
  try simp only [← e1]
  clear e1
  generalize lpL (Y.ctx (lim' Y)) 3 = lp
  generalize lim' Y = call
  kernel_rfl
theorem wFnExactCallText.p6 (y0 : ByteArray) (y1 : Int) (y2 : List (List D)) (y3 : List (List D)) (y4 : Int) (y5 : ByteArray) (y6 : Int) (y7 : List (List D)) (y8 : List (List D)) (y9 : Int) (y10 : ByteArray) :
    wFnExactCallText.P6 y0 y1 y2 y3 y4 y5 y6 y7 y8 y9 y10 =
    (iCallText [AV.g [A1.v (Value.int IntKind.i64 y6), A1.s y7, A1.s y8, A1.v (Value.int IntKind.i64 y9), A1.v (Value.string y10)]] []).bind fun val =>
  bif fitsCells [R1.str] val.1 && true then
    bif !(val.1.getD 0 TC.d).str.toList == y0.toList then some { cells := [TC.v (Value.bool false)], objs := [] }
    else
      (wtoCall [AV.g [A1.v (Value.int IntKind.i64 y1), A1.s y2, A1.s y3, A1.v (Value.int IntKind.i64 y4), A1.v (Value.string y5)]] []).bind fun val =>
        bif fitsCells [R1.int IntKind.i64, R1.own Own.deep, R1.own Own.deep, R1.int IntKind.i64, R1.str] val.1 && true then
          (weqCall
                [AV.g [A1.v (Value.int IntKind.i64 y6), A1.s y7, A1.s y8, A1.v (Value.int IntKind.i64 y9), A1.v (Value.string y10)],
                  AV.g
                    [A1.v (Value.int IntKind.i64 (val.1.getD 0 TC.d).int), A1.s (val.1.getD 1 TC.d).es, A1.s (val.1.getD 2 TC.d).es, A1.v (Value.int IntKind.i64 (val.1.getD 3 TC.d).int),
                      A1.v (Value.string (val.1.getD 4 TC.d).str)]]
                []).bind
            fun val => bif fitsCells [R1.bool] val.1 && true then bif !(val.1.getD 0 TC.d).bool then some { cells := [TC.v (Value.bool false)], objs := [] } else wFnExactCallText.P9 else none
        else none
  else none := by
  delta wFnExactCallText.P6 iCallText wtoCall weqCall wFnExactCallText.P9 XX
  refine cut_use 6 2 9 rfl (wFnExactCallText.c) (by kernel_rfl) fun K e1 => ?_
  try simp only [← e1]
  clear e1
  generalize lpL (Y.ctx (lim' Y)) 3 = lp
  generalize lim' Y = call
  kernel_rfl
theorem wFnExactCallText.p9 :
    wFnExactCallText.P9 =
    some { cells := [TC.v (Value.bool true)], objs := [] } := by
  delta wFnExactCallText.P9 XX
  generalize lpL (Y.ctx (lim' Y)) 3 = lp
  generalize lim' Y = call
  kernel_rfl


noncomputable def wszCall.P3 (y0 : Int) (y1 : Int) (y2 : List (List D)) (y3 : List (List D)) (y4 : Int) (y5 : ByteArray) : Option Res := evK XX 5 (lpL XX 5) (dropC 3 wszCall.c)
  (mkG 0 25 [(1, AV.one (A1.v (Value.int IntKind.i64 y0))), (2, AV.one (A1.p true 2 [] 0))]
    [(2,
        some
          { kind := Kind.box, row := [D.v (Value.int IntKind.i64 y1), D.s y2, D.s y3, D.v (Value.int IntKind.i64 y4), D.v (Value.string y5)], fl := [Own.deep, Own.sh, Own.sh, Own.deep, Own.deep] })]
    GL)
  (outE XX 5 Tryd.f5)
noncomputable def wszCall.P6 (y0 : Int) : Option Res := evK XX 5 (lpL XX 5) (dropC 6 wszCall.c) (mkG 0 25 [(1, AV.one (A1.v (Value.int IntKind.i64 y0)))] [] GL) (outE XX 5 Tryd.f5)
theorem wszCall.e (a0 : Int) (a1 : List (List D)) (a2 : List (List D)) (a3 : Int) (a4 : ByteArray) (a5 : Int) :
    wszCall [AV.g [A1.v (Value.int IntKind.i64 a0), A1.s a1, A1.s a2, A1.v (Value.int IntKind.i64 a3), A1.v (Value.string a4)], AV.one (A1.v (Value.int IntKind.i64 a5))] [] =
    (wszStringS [AV.one (A1.s a1), AV.one (A1.v (Value.int IntKind.i64 a5))] []).bind fun val =>
  bif fitsCells [R1.int IntKind.i64] val.1 && true then
    bif decide ((val.1.getD 0 TC.d).int < 0) then some { cells := [TC.v (Value.int IntKind.i64 (-1))], objs := [] } else wszCall.P3 (val.1.getD 0 TC.d).int a0 a1 a2 a3 a4
  else none := by
  refine (wszCall.run _ _ (by kernel_rfl)).trans ?_
  delta wszCall wszStringS wszCall.P3 XX
  refine cut_use0 2 3 rfl (wszCall.c) (by kernel_rfl) fun K e1 => ?_
  try simp only [← e1]
  clear e1
  generalize lpL (Y.ctx (lim' Y)) 5 = lp
  generalize lim' Y = call
  kernel_rfl
theorem wszCall.p3 (y0 : Int) (y1 : Int) (y2 : List (List D)) (y3 : List (List D)) (y4 : Int) (y5 : ByteArray) :
    wszCall.P3 y0 y1 y2 y3 y4 y5 =
    (wszStringS [AV.one (A1.s y3), AV.one (A1.v (Value.int IntKind.i64 y0))] []).bind fun val =>
  bif fitsCells [R1.int IntKind.i64] val.1 && true then
    bif decide ((val.1.getD 0 TC.d).int < 0) then some { cells := [TC.v (Value.int IntKind.i64 (-1))], objs := [] } else wszCall.P6 (IntKind.i64.wrap ((val.1.getD 0 TC.d).int - (↑y5.size : Int)))
  else none := by
  delta wszCall.P3 wszStringS wszCall.P6 XX
  refine cut_use 3 2 6 rfl (wszCall.c) (by kernel_rfl) fun K e1 => ?_
  try simp only [← e1]
  clear e1
  generalize lpL (Y.ctx (lim' Y)) 5 = lp
  generalize lim' Y = call
  kernel_rfl
theorem wszCall.p6 (y0 : Int) :
    wszCall.P6 y0 =
    bif decide (y0 < 0) then some { cells := [TC.v (Value.int IntKind.i64 (-1))], objs := [] } else some { cells := [TC.v (Value.int IntKind.i64 y0)], objs := [] } := by
  delta wszCall.P6 XX
  generalize lpL (Y.ctx (lim' Y)) 5 = lp
  generalize lim' Y = call
  kernel_rfl


noncomputable def sCallText.P2 (y0 : Int) (y1 : List (List D)) (y2 : List (List D)) (y3 : Int) (y4 : ByteArray) : Option Res := evK XX 6 (lpL XX 6) (dropC 2 sCallText.c)
  (mkG 0 62 [(1, AV.one (A1.p true 1 [] 0))]
    [(1,
        some
          { kind := Kind.box, row := [D.v (Value.int IntKind.i64 y0), D.s y1, D.s y2, D.v (Value.int IntKind.i64 y3), D.v (Value.string y4)], fl := [Own.deep, Own.sh, Own.sh, Own.deep, Own.deep] })]
    GL)
  (outE XX 6 Tryd.f6)
noncomputable def sCallText.P3 (y0 : ByteArray) (y1 : Int) (y2 : List (List D)) (y3 : List (List D)) (y4 : Int) (y5 : ByteArray) : Option Res := evK XX 6 (lpL XX 6) (dropC 3 sCallText.c)
  (mkG 0 62 [(1, AV.one (A1.p true 1 [] 0)), (3, AV.one (A1.v (Value.string y0)))]
    [(1,
        some
          { kind := Kind.box, row := [D.v (Value.int IntKind.i64 y1), D.s y2, D.s y3, D.v (Value.int IntKind.i64 y4), D.v (Value.string y5)], fl := [Own.deep, Own.sh, Own.sh, Own.deep, Own.deep] })]
    GL)
  (outE XX 6 Tryd.f6)
noncomputable def sCallText.P4 (y0 : ByteArray) : Option Res := evK XX 6 (lpL XX 6) (dropC 4 sCallText.c) (mkG 0 62 [(3, AV.one (A1.v (Value.string y0)))] [] GL) (outE XX 6 Tryd.f6)
theorem sCallText.e (a0 : Int) (a1 : List (List D)) (a2 : List (List D)) (a3 : Int) (a4 : ByteArray) :
    sCallText [AV.g [A1.v (Value.int IntKind.i64 a0), A1.s a1, A1.s a2, A1.v (Value.int IntKind.i64 a3), A1.v (Value.string a4)]] [] =
    (sl2CallOk [AV.g [A1.v (Value.int IntKind.i64 a0), A1.s a1, A1.s a2, A1.v (Value.int IntKind.i64 a3), A1.v (Value.string a4)]] []).bind fun val =>
  bif fitsCells [R1.bool] val.1 && true then
    bif !(val.1.getD 0 TC.d).bool then some { cells := [TC.v (Value.string (ByteArray.mk #[]))], objs := [] }
    else bif a0 == 2 then bif decide ((↑a4.size : Int) > 24) then some { cells := [TC.v (Value.string (ByteArray.mk #[]))], objs := [] } else sCallText.P2 a0 a1 a2 a3 a4 else sCallText.P2 a0 a1 a2 a3 a4
  else none := by
  refine (sCallText.run _ _ (by kernel_rfl)).trans ?_
  delta sCallText sl2CallOk sCallText.P2 XX
  refine cut_use0 1 2 rfl (sCallText.c) (by kernel_rfl) fun K e1 => ?_
  try simp only [← e1]
  clear e1
  generalize lpL (Y.ctx (lim' Y)) 6 = lp
  generalize lim' Y = call
  kernel_rfl
theorem sCallText.p2 (y0 : Int) (y1 : List (List D)) (y2 : List (List D)) (y3 : Int) (y4 : ByteArray) :
    sCallText.P2 y0 y1 y2 y3 y4 =
    (sl42Words [] []).bind fun val =>
  bif fitsCells [R1.own Own.deep] val.1 && true then
    bif decide (0 ≤ y0) && decide (y0 < (↑(val.1.getD 0 TC.d).es.length : Int)) && decide (((val.1.getD 0 TC.d).es.getD y0.toNat []).length = 1) then
      bif fitsRow [CK.str] ((val.1.getD 0 TC.d).es.getD y0.toNat []) 0 && decide (1 ≤ ((val.1.getD 0 TC.d).es.getD y0.toNat []).length) then
        bif decide ((((val.1.getD 0 TC.d).es.getD y0.toNat []).getD 0 D.h).str.size + 1 ≤ 70368744177664) then
          (sl3Name [AV.one (A1.s y1)] []).bind fun val_1 =>
            bif fitsCells [R1.str] val_1.1 && true then
              bif decide (((((val.1.getD 0 TC.d).es.getD y0.toNat []).getD 0 D.h).str ++ (ByteArray.mk #[32])).size + (val_1.1.getD 0 TC.d).str.size ≤ 70368744177664) then
                sCallText.P3 ((((val.1.getD 0 TC.d).es.getD y0.toNat []).getD 0 D.h).str ++ (ByteArray.mk #[32]) ++ (val_1.1.getD 0 TC.d).str) y0 y1 y2 y3 y4
              else none
            else none
        else none
      else none
    else none
  else none := by
  delta sCallText.P2 sl42Words sl3Name sCallText.P3 XX
  refine cut_use 2 0 3 rfl (sCallText.c) (by kernel_rfl) fun K e1 => ?_
  try simp only [← e1]
  clear e1
  generalize lpL (Y.ctx (lim' Y)) 6 = lp
  generalize lim' Y = call
  kernel_rfl
theorem sCallText.p3 (y0 : ByteArray) (y1 : Int) (y2 : List (List D)) (y3 : List (List D)) (y4 : Int) (y5 : ByteArray) :
    sCallText.P3 y0 y1 y2 y3 y4 y5 =
    bif y1 == 1 then
  bif y1 == 1 then
    bif decide (y0.size + 1 ≤ 70368744177664) then
      (sl1Dec [AV.one (A1.v (Value.int IntKind.i64 y4))] []).bind fun val =>
        bif fitsCells [R1.str] val.1 && true then
          bif decide ((y0 ++ (ByteArray.mk #[32])).size + (val.1.getD 0 TC.d).str.size ≤ 70368744177664) then
            some { cells := [TC.v (Value.string (y0 ++ (ByteArray.mk #[32]) ++ (val.1.getD 0 TC.d).str))], objs := [] }
          else none
        else none
    else none
  else
    bif y1 == 2 then
      bif decide (y0.size + 1 ≤ 70368744177664) then
        (sl1Dec [AV.one (A1.v (Value.int IntKind.i64 y4))] []).bind fun val =>
          bif fitsCells [R1.str] val.1 && true then
            bif decide ((y0 ++ (ByteArray.mk #[32])).size + (val.1.getD 0 TC.d).str.size ≤ 70368744177664) then
              bif decide ((y0 ++ (ByteArray.mk #[32]) ++ (val.1.getD 0 TC.d).str).size + 1 ≤ 70368744177664) then
                (sl1Hex [AV.one (A1.v (Value.string y5))] []).bind fun val_1 =>
                  bif fitsCells [R1.str] val_1.1 && true then
                    bif decide ((y0 ++ (ByteArray.mk #[32]) ++ (val.1.getD 0 TC.d).str ++ (ByteArray.mk #[32])).size + (val_1.1.getD 0 TC.d).str.size ≤ 70368744177664) then
                      some { cells := [TC.v (Value.string (y0 ++ (ByteArray.mk #[32]) ++ (val.1.getD 0 TC.d).str ++ (ByteArray.mk #[32]) ++ (val_1.1.getD 0 TC.d).str))], objs := [] }
                    else none
                  else none
              else none
            else none
          else none
      else none
    else
      bif y1 == 5 then
        bif decide (y0.size + 1 ≤ 70368744177664) then
          (sl3Name [AV.one (A1.s y3)] []).bind fun val =>
            bif fitsCells [R1.str] val.1 && true then
              bif decide ((y0 ++ (ByteArray.mk #[32])).size + (val.1.getD 0 TC.d).str.size ≤ 70368744177664) then
                some { cells := [TC.v (Value.string (y0 ++ (ByteArray.mk #[32]) ++ (val.1.getD 0 TC.d).str))], objs := [] }
              else none
            else none
        else none
      else sCallText.P4 y0
else
  bif y1 == 6 then
    bif y1 == 6 then
      bif decide (y0.size + 1 ≤ 70368744177664) then
        (sl1Dec [AV.one (A1.v (Value.int IntKind.i64 y4))] []).bind fun val =>
          bif fitsCells [R1.str] val.1 && true then
            bif decide ((y0 ++ (ByteArray.mk #[32])).size + (val.1.getD 0 TC.d).str.size ≤ 70368744177664) then
              some { cells := [TC.v (Value.string (y0 ++ (ByteArray.mk #[32]) ++ (val.1.getD 0 TC.d).str))], objs := [] }
            else none
          else none
      else none
    else
      bif y1 == 2 then
        bif decide (y0.size + 1 ≤ 70368744177664) then
          (sl1Dec [AV.one (A1.v (Value.int IntKind.i64 y4))] []).bind fun val =>
            bif fitsCells [R1.str] val.1 && true then
              bif decide ((y0 ++ (ByteArray.mk #[32])).size + (val.1.getD 0 TC.d).str.size ≤ 70368744177664) then
                bif decide ((y0 ++ (ByteArray.mk #[32]) ++ (val.1.getD 0 TC.d).str).size + 1 ≤ 70368744177664) then
                  (sl1Hex [AV.one (A1.v (Value.string y5))] []).bind fun val_1 =>
                    bif fitsCells [R1.str] val_1.1 && true then
                      bif decide ((y0 ++ (ByteArray.mk #[32]) ++ (val.1.getD 0 TC.d).str ++ (ByteArray.mk #[32])).size + (val_1.1.getD 0 TC.d).str.size ≤ 70368744177664) then
                        some
                          { cells := [TC.v (Value.string (y0 ++ (ByteArray.mk #[32]) ++ (val.1.getD 0 TC.d).str ++ (ByteArray.mk #[32]) ++ (val_1.1.getD 0 TC.d).str))], objs := [] }
                      else none
                    else none
                else none
              else none
            else none
        else none
      else
        bif y1 == 5 then
          bif decide (y0.size + 1 ≤ 70368744177664) then
            (sl3Name [AV.one (A1.s y3)] []).bind fun val =>
              bif fitsCells [R1.str] val.1 && true then
                bif decide ((y0 ++ (ByteArray.mk #[32])).size + (val.1.getD 0 TC.d).str.size ≤ 70368744177664) then
                  some { cells := [TC.v (Value.string (y0 ++ (ByteArray.mk #[32]) ++ (val.1.getD 0 TC.d).str))], objs := [] }
                else none
              else none
          else none
        else sCallText.P4 y0
  else
    bif y1 == 3 then
      bif decide (y0.size + 1 ≤ 70368744177664) then
        (sl1Dec [AV.one (A1.v (Value.int IntKind.i64 y4))] []).bind fun val =>
          bif fitsCells [R1.str] val.1 && true then
            bif decide ((y0 ++ (ByteArray.mk #[32])).size + (val.1.getD 0 TC.d).str.size ≤ 70368744177664) then
              some { cells := [TC.v (Value.string (y0 ++ (ByteArray.mk #[32]) ++ (val.1.getD 0 TC.d).str))], objs := [] }
            else none
          else none
      else none
    else
      bif y1 == 2 then
        bif decide (y0.size + 1 ≤ 70368744177664) then
          (sl1Dec [AV.one (A1.v (Value.int IntKind.i64 y4))] []).bind fun val =>
            bif fitsCells [R1.str] val.1 && true then
              bif decide ((y0 ++ (ByteArray.mk #[32])).size + (val.1.getD 0 TC.d).str.size ≤ 70368744177664) then
                bif decide ((y0 ++ (ByteArray.mk #[32]) ++ (val.1.getD 0 TC.d).str).size + 1 ≤ 70368744177664) then
                  (sl1Hex [AV.one (A1.v (Value.string y5))] []).bind fun val_1 =>
                    bif fitsCells [R1.str] val_1.1 && true then
                      bif decide ((y0 ++ (ByteArray.mk #[32]) ++ (val.1.getD 0 TC.d).str ++ (ByteArray.mk #[32])).size + (val_1.1.getD 0 TC.d).str.size ≤ 70368744177664) then
                        some
                          { cells := [TC.v (Value.string (y0 ++ (ByteArray.mk #[32]) ++ (val.1.getD 0 TC.d).str ++ (ByteArray.mk #[32]) ++ (val_1.1.getD 0 TC.d).str))], objs := [] }
                      else none
                    else none
                else none
              else none
            else none
        else none
      else
        bif y1 == 5 then
          bif decide (y0.size + 1 ≤ 70368744177664) then
            (sl3Name [AV.one (A1.s y3)] []).bind fun val =>
              bif fitsCells [R1.str] val.1 && true then
                bif decide ((y0 ++ (ByteArray.mk #[32])).size + (val.1.getD 0 TC.d).str.size ≤ 70368744177664) then
                  some { cells := [TC.v (Value.string (y0 ++ (ByteArray.mk #[32]) ++ (val.1.getD 0 TC.d).str))], objs := [] }
                else none
              else none
          else none
        else sCallText.P4 y0 := by
  delta sCallText.P3 sl1Dec sl1Hex sl3Name sCallText.P4 XX
  refine cut_use 3 0 4 rfl (sCallText.c) (by kernel_rfl) fun K e1 => ?_
  try simp only [← e1]
  clear e1
  generalize lpL (Y.ctx (lim' Y)) 6 = lp
  generalize lim' Y = call
  kernel_rfl
theorem sCallText.p4 (y0 : ByteArray) :
    sCallText.P4 y0 =
    some { cells := [TC.v (Value.string y0)], objs := [] } := by
  delta sCallText.P4 XX
  generalize lpL (Y.ctx (lim' Y)) 6 = lp
  generalize lim' Y = call
  kernel_rfl


theorem wtoCall.e (a0 : Int) (a1 : List (List D)) (a2 : List (List D)) (a3 : Int) (a4 : ByteArray) :
    wtoCall [AV.g [A1.v (Value.int IntKind.i64 a0), A1.s a1, A1.s a2, A1.v (Value.int IntKind.i64 a3), A1.v (Value.string a4)]] [] =
    (wtoStringS [AV.one (A1.s a1)] []).bind fun val =>
  bif fitsCells [R1.own Own.deep] val.1 && true then
    (wtoStringS [AV.one (A1.s a2)] []).bind fun val_1 =>
      bif fitsCells [R1.own Own.deep] val_1.1 && true then
        some
          { cells := [TC.v (Value.int IntKind.i64 a0), TC.o Own.deep (val.1.getD 0 TC.d).es, TC.o Own.deep (val_1.1.getD 0 TC.d).es, TC.v (Value.int IntKind.i64 a3), TC.v (Value.string a4)],
            objs := [] }
      else none
  else none := by
  refine (wtoCall.run _ _ (by kernel_rfl)).trans ?_
  delta wtoCall wtoStringS XX
  generalize lpL (Y.ctx (lim' Y)) 7 = lp
  generalize lim' Y = call
  kernel_rfl


noncomputable def iCallText.P3 (y0 : ByteArray) (y1 : Int) (y2 : List (List D)) (y3 : List (List D)) (y4 : Int) (y5 : ByteArray) : Option Res := evK XX 8 (lpL XX 8) (dropC 3 iCallText.c)
  (mkG 0 53 [(1, AV.one (A1.p true 1 [] 0)), (3, AV.one (A1.v (Value.string y0)))]
    [(1,
        some
          { kind := Kind.box, row := [D.v (Value.int IntKind.i64 y1), D.s y2, D.s y3, D.v (Value.int IntKind.i64 y4), D.v (Value.string y5)], fl := [Own.deep, Own.sh, Own.sh, Own.deep, Own.deep] })]
    GL)
  (outE XX 8 Tryd.f8)
noncomputable def iCallText.P5 (y0 : ByteArray) (y1 : ByteArray) : Option Res := evK XX 8 (lpL XX 8) (dropC 5 iCallText.c) (mkG 0 53 [(3, AV.one (A1.v (Value.string y0))), (4, AV.one (A1.v (Value.string y1)))] [] GL) (outE XX 8 Tryd.f8)
theorem iCallText.e (a0 : Int) (a1 : List (List D)) (a2 : List (List D)) (a3 : Int) (a4 : ByteArray) :
    iCallText [AV.g [A1.v (Value.int IntKind.i64 a0), A1.s a1, A1.s a2, A1.v (Value.int IntKind.i64 a3), A1.v (Value.string a4)]] [] =
    (iCall_isCall [AV.g [A1.v (Value.int IntKind.i64 a0), A1.s a1, A1.s a2, A1.v (Value.int IntKind.i64 a3), A1.v (Value.string a4)]] []).bind fun val =>
  bif fitsCells [R1.bool] val.1 && true then
    bif !(val.1.getD 0 TC.d).bool then some { cells := [TC.v (Value.string (ByteArray.mk #[]))], objs := [] }
    else
      bif
          decide (0 ≤ a0) &&
              decide
                (a0 <
                  (↑([D.s
                                  [[D.v (Value.string (ByteArray.mk #[]))], [D.v (Value.string (ByteArray.mk #[109, 107, 100, 105, 114]))], [D.v (Value.string (ByteArray.mk #[119, 114, 105, 116, 101]))],
                                    [D.v (Value.string (ByteArray.mk #[116, 114, 117, 110, 99, 97, 116, 101]))], [D.v (Value.string (ByteArray.mk #[114, 101, 109, 111, 118, 101]))],
                                    [D.v (Value.string (ByteArray.mk #[114, 101, 110, 97, 109, 101]))], [D.v (Value.string (ByteArray.mk #[99, 104, 109, 111, 100]))]]].getD
                            (0 + (CK.sl, 0).snd) D.h).es.length :
                    Int)) &&
            decide
              (([[D.v (Value.string (ByteArray.mk #[]))], [D.v (Value.string (ByteArray.mk #[109, 107, 100, 105, 114]))],
                        [D.v (Value.string (ByteArray.mk #[119, 114, 105, 116, 101]))],
                        [D.v (Value.string (ByteArray.mk #[116, 114, 117, 110, 99, 97, 116, 101]))],
                        [D.v (Value.string (ByteArray.mk #[114, 101, 109, 111, 118, 101]))],
                        [D.v (Value.string (ByteArray.mk #[114, 101, 110, 97, 109, 101]))],
                        [D.v (Value.string (ByteArray.mk #[99, 104, 109, 111, 100]))]].getD
                    a0.toNat []).length =
                1) then
        bif
            fitsRow [CK.str]
                ([[D.v (Value.string (ByteArray.mk #[]))], [D.v (Value.string (ByteArray.mk #[109, 107, 100, 105, 114]))],
                      [D.v (Value.string (ByteArray.mk #[119, 114, 105, 116, 101]))],
                      [D.v (Value.string (ByteArray.mk #[116, 114, 117, 110, 99, 97, 116, 101]))],
                      [D.v (Value.string (ByteArray.mk #[114, 101, 109, 111, 118, 101]))],
                      [D.v (Value.string (ByteArray.mk #[114, 101, 110, 97, 109, 101]))],
                      [D.v (Value.string (ByteArray.mk #[99, 104, 109, 111, 100]))]].getD
                  a0.toNat [])
                0 &&
              decide
                (1 ≤
                  ([[D.v (Value.string (ByteArray.mk #[]))], [D.v (Value.string (ByteArray.mk #[109, 107, 100, 105, 114]))],
                          [D.v (Value.string (ByteArray.mk #[119, 114, 105, 116, 101]))],
                          [D.v (Value.string (ByteArray.mk #[116, 114, 117, 110, 99, 97, 116, 101]))],
                          [D.v (Value.string (ByteArray.mk #[114, 101, 109, 111, 118, 101]))],
                          [D.v (Value.string (ByteArray.mk #[114, 101, 110, 97, 109, 101]))],
                          [D.v (Value.string (ByteArray.mk #[99, 104, 109, 111, 100]))]].getD
                      a0.toNat []).length) then
          bif
              decide
                ((([[D.v (Value.string (ByteArray.mk #[]))], [D.v (Value.string (ByteArray.mk #[109, 107, 100, 105, 114]))],
                                  [D.v (Value.string (ByteArray.mk #[119, 114, 105, 116, 101]))],
                                  [D.v
                                      (Value.string
                                        (ByteArray.mk #[116, 114, 117, 110, 99, 97, 116, 101]))],
                                  [D.v (Value.string (ByteArray.mk #[114, 101, 109, 111, 118, 101]))],
                                  [D.v (Value.string (ByteArray.mk #[114, 101, 110, 97, 109, 101]))],
                                  [D.v (Value.string (ByteArray.mk #[99, 104, 109, 111, 100]))]].getD
                              a0.toNat []).getD
                          0 D.h).str.size +
                    1 ≤
                  70368744177664) then
            (ipathText [AV.one (A1.s a1)] []).bind fun val =>
              bif fitsCells [R1.str] val.1 && true then
                bif
                    decide
                      (((([[D.v (Value.string (ByteArray.mk #[]))], [D.v (Value.string (ByteArray.mk #[109, 107, 100, 105, 114]))],
                                          [D.v (Value.string (ByteArray.mk #[119, 114, 105, 116, 101]))],
                                          [D.v
                                              (Value.string
                                                (ByteArray.mk #[116, 114, 117, 110, 99, 97, 116, 101]))],
                                          [D.v (Value.string (ByteArray.mk #[114, 101, 109, 111, 118, 101]))],
                                          [D.v (Value.string (ByteArray.mk #[114, 101, 110, 97, 109, 101]))],
                                          [D.v (Value.string (ByteArray.mk #[99, 104, 109, 111, 100]))]].getD
                                      a0.toNat []).getD
                                  0 D.h).str ++
                              (ByteArray.mk #[32])).size +
                          (val.1.getD 0 TC.d).str.size ≤
                        70368744177664) then
                  iCallText.P3
                    ((([[D.v (Value.string (ByteArray.mk #[]))], [D.v (Value.string (ByteArray.mk #[109, 107, 100, 105, 114]))],
                                    [D.v (Value.string (ByteArray.mk #[119, 114, 105, 116, 101]))],
                                    [D.v
                                        (Value.string
                                          (ByteArray.mk #[116, 114, 117, 110, 99, 97, 116, 101]))],
                                    [D.v (Value.string (ByteArray.mk #[114, 101, 109, 111, 118, 101]))],
                                    [D.v (Value.string (ByteArray.mk #[114, 101, 110, 97, 109, 101]))],
                                    [D.v (Value.string (ByteArray.mk #[99, 104, 109, 111, 100]))]].getD
                                a0.toNat []).getD
                            0 D.h).str ++
                        (ByteArray.mk #[32]) ++
                      (val.1.getD 0 TC.d).str)
                    a0 a1 a2 a3 a4
                else none
              else none
          else none
        else none
      else none
  else none := by
  refine (iCallText.run _ _ (by kernel_rfl)).trans ?_
  delta iCallText iCall_isCall ipathText iCallText.P3 XX
  refine cut_use0 2 3 rfl (iCallText.c) (by kernel_rfl) fun K e1 => ?_
  try simp only [← e1]
  clear e1
  generalize lpL (Y.ctx (lim' Y)) 8 = lp
  generalize lim' Y = call
  kernel_rfl
theorem iCallText.p3 (y0 : ByteArray) (y1 : Int) (y2 : List (List D)) (y3 : List (List D)) (y4 : Int) (y5 : ByteArray) :
    iCallText.P3 y0 y1 y2 y3 y4 y5 =
    (strconv_Itoa [AV.one (A1.v (Value.int IntKind.i64 y4))] []).bind fun val =>
  bif fitsCells [R1.str] val.1 && true then
    bif y1 == 2 then
      bif decide ((↑y5.size : Int) > 24) then some { cells := [TC.v (Value.string (ByteArray.mk #[]))], objs := [] }
      else
        bif decide (y0.size + 1 ≤ 70368744177664) then
          bif decide ((y0 ++ (ByteArray.mk #[32])).size + (val.1.getD 0 TC.d).str.size ≤ 70368744177664) then
            bif decide ((y0 ++ (ByteArray.mk #[32]) ++ (val.1.getD 0 TC.d).str).size + 1 ≤ 70368744177664) then
              (idataText [AV.one (A1.v (Value.string y5))] []).bind fun val_1 =>
                bif fitsCells [R1.str] val_1.1 && true then
                  bif decide ((y0 ++ (ByteArray.mk #[32]) ++ (val.1.getD 0 TC.d).str ++ (ByteArray.mk #[32])).size + (val_1.1.getD 0 TC.d).str.size ≤ 70368744177664) then
                    some { cells := [TC.v (Value.string (y0 ++ (ByteArray.mk #[32]) ++ (val.1.getD 0 TC.d).str ++ (ByteArray.mk #[32]) ++ (val_1.1.getD 0 TC.d).str))], objs := [] }
                  else none
                else none
            else none
          else none
        else none
    else
      bif y1 == 4 then some { cells := [TC.v (Value.string y0)], objs := [] }
      else
        bif y1 == 5 then
          bif decide (y0.size + 1 ≤ 70368744177664) then
            (ipathText [AV.one (A1.s y3)] []).bind fun val =>
              bif fitsCells [R1.str] val.1 && true then
                bif decide ((y0 ++ (ByteArray.mk #[32])).size + (val.1.getD 0 TC.d).str.size ≤ 70368744177664) then
                  some { cells := [TC.v (Value.string (y0 ++ (ByteArray.mk #[32]) ++ (val.1.getD 0 TC.d).str))], objs := [] }
                else none
              else none
          else none
        else iCallText.P5 y0 (val.1.getD 0 TC.d).str
  else none := by
  delta iCallText.P3 strconv_Itoa idataText ipathText iCallText.P5 XX
  refine cut_use 3 1 5 rfl (iCallText.c) (by kernel_rfl) fun K e1 => ?_
  try simp only [← e1]
  clear e1
  generalize lpL (Y.ctx (lim' Y)) 8 = lp
  generalize lim' Y = call
  kernel_rfl
theorem iCallText.p5 (y0 : ByteArray) (y1 : ByteArray) :
    iCallText.P5 y0 y1 =
    bif decide (y0.size + 1 ≤ 70368744177664) then
  bif decide ((y0 ++ (ByteArray.mk #[32])).size + y1.size ≤ 70368744177664) then some { cells := [TC.v (Value.string (y0 ++ (ByteArray.mk #[32]) ++ y1))], objs := [] } else none
else none := by
  delta iCallText.P5 XX
  generalize lpL (Y.ctx (lim' Y)) 8 = lp
  generalize lim' Y = call
  kernel_rfl


noncomputable def weqCall.P3 (y0 : Int) (y1 : List (List D)) (y2 : List (List D)) (y3 : Int) (y4 : ByteArray) (y5 : Int) (y6 : List (List D)) (y7 : List (List D)) (y8 : Int) (y9 : ByteArray) : Option Res := evK XX 9 (lpL XX 9) (dropC 3 weqCall.c)
  (mkG 0 32 [(2, AV.one (A1.p true 2 [] 0)), (3, AV.one (A1.p true 3 [] 0))]
    [(2,
        some
          { kind := Kind.box, row := [D.v (Value.int IntKind.i64 y0), D.s y1, D.s y2, D.v (Value.int IntKind.i64 y3), D.v (Value.string y4)], fl := [Own.deep, Own.sh, Own.sh, Own.deep, Own.deep] }),
      (3,
        some
          { kind := Kind.box, row := [D.v (Value.int IntKind.i64 y5), D.s y6, D.s y7, D.v (Value.int IntKind.i64 y8), D.v (Value.string y9)], fl := [Own.deep, Own.sh, Own.sh, Own.deep, Own.deep] })]
    GL)
  (outE XX 9 Tryd.f9)
noncomputable def weqCall.P5 (y0 : Int) (y1 : List (List D)) (y2 : List (List D)) (y3 : Int) (y4 : ByteArray) (y5 : Int) (y6 : List (List D)) (y7 : List (List D)) (y8 : Int) (y9 : ByteArray) : Option Res := evK XX 9 (lpL XX 9) (dropC 5 weqCall.c)
  (mkG 0 32 [(2, AV.one (A1.p true 2 [] 0)), (3, AV.one (A1.p true 3 [] 0))]
    [(2,
        some
          { kind := Kind.box, row := [D.v (Value.int IntKind.i64 y0), D.s y1, D.s y2, D.v (Value.int IntKind.i64 y3), D.v (Value.string y4)], fl := [Own.deep, Own.sh, Own.sh, Own.deep, Own.deep] }),
      (3,
        some
          { kind := Kind.box, row := [D.v (Value.int IntKind.i64 y5), D.s y6, D.s y7, D.v (Value.int IntKind.i64 y8), D.v (Value.string y9)], fl := [Own.deep, Own.sh, Own.sh, Own.deep, Own.deep] })]
    GL)
  (outE XX 9 Tryd.f9)
theorem weqCall.e (a0 : Int) (a1 : List (List D)) (a2 : List (List D)) (a3 : Int) (a4 : ByteArray) (a5 : Int) (a6 : List (List D)) (a7 : List (List D)) (a8 : Int) (a9 : ByteArray) :
    weqCall
  [AV.g [A1.v (Value.int IntKind.i64 a0), A1.s a1, A1.s a2, A1.v (Value.int IntKind.i64 a3), A1.v (Value.string a4)],
    AV.g [A1.v (Value.int IntKind.i64 a5), A1.s a6, A1.s a7, A1.v (Value.int IntKind.i64 a8), A1.v (Value.string a9)]]
  [] =
    bif a0 != a5 then some { cells := [TC.v (Value.bool false)], objs := [] }
else
  (weqStringS [AV.one (A1.s a1), AV.one (A1.s a6)] []).bind fun val =>
    bif fitsCells [R1.bool] val.1 && true then bif !(val.1.getD 0 TC.d).bool then some { cells := [TC.v (Value.bool false)], objs := [] } else weqCall.P3 a0 a1 a2 a3 a4 a5 a6 a7 a8 a9 else none := by
  refine (weqCall.run _ _ (by kernel_rfl)).trans ?_
  delta weqCall weqStringS weqCall.P3 XX
  refine cut_use0 2 3 rfl (weqCall.c) (by kernel_rfl) fun K e1 => ?_
  try simp only [← e1]
  clear e1
  generalize lpL (Y.ctx (lim' Y)) 9 = lp
  generalize lim' Y = call
  kernel_rfl
theorem weqCall.p3 (y0 : Int) (y1 : List (List D)) (y2 : List (List D)) (y3 : Int) (y4 : ByteArray) (y5 : Int) (y6 : List (List D)) (y7 : List (List D)) (y8 : Int) (y9 : ByteArray) :
    weqCall.P3 y0 y1 y2 y3 y4 y5 y6 y7 y8 y9 =
    (weqStringS [AV.one (A1.s y2), AV.one (A1.s y7)] []).bind fun val =>
  bif fitsCells [R1.bool] val.1 && true then
    bif !(val.1.getD 0 TC.d).bool then some { cells := [TC.v (Value.bool false)], objs := [] }
    else bif y3 != y8 then some { cells := [TC.v (Value.bool false)], objs := [] } else weqCall.P5 y0 y1 y2 y3 y4 y5 y6 y7 y8 y9
  else none := by
  delta weqCall.P3 weqStringS weqCall.P5 XX
  refine cut_use 3 1 5 rfl (weqCall.c) (by kernel_rfl) fun K e1 => ?_
  try simp only [← e1]
  clear e1
  generalize lpL (Y.ctx (lim' Y)) 9 = lp
  generalize lim' Y = call
  kernel_rfl
theorem weqCall.p5 (y0 : Int) (y1 : List (List D)) (y2 : List (List D)) (y3 : Int) (y4 : ByteArray) (y5 : Int) (y6 : List (List D)) (y7 : List (List D)) (y8 : Int) (y9 : ByteArray) :
    weqCall.P5 y0 y1 y2 y3 y4 y5 y6 y7 y8 y9 =
    bif !y4.toList == y9.toList then some { cells := [TC.v (Value.bool false)], objs := [] } else some { cells := [TC.v (Value.bool true)], objs := [] } := by
  delta weqCall.P5 XX
  generalize lpL (Y.ctx (lim' Y)) 9 = lp
  generalize lim' Y = call
  kernel_rfl


noncomputable def wszStringS.L5 (y0 : List (List D)) (y1 : Int) (y2 : Int) : Option (Ex × St) := lpL XX 15 (bodyAt 5 wszStringS.c) (mkG 0 28 [(0, AV.one (A1.s y0)), (1, AV.one (A1.v (Value.int IntKind.i64 y1))), (5, AV.one (A1.v (Value.int IntKind.i64 y2)))] [] GL)
noncomputable def wszStringS.A5 : Ex × St → Option Res := fun r => evA XX 15 (lpL XX 15) 5 wszStringS.c r.fst r.snd (outE XX 15 Tryd.f15)
noncomputable def wszStringS.q5 (y0 : Int) (y1 : Int) : Ex × St := (Ex.ret, mkG 0 28 [(1, AV.one (A1.v (Value.int IntKind.i64 y0))), (4, AV.one (A1.v (Value.int IntKind.i64 y1)))] [] GL)
noncomputable def wszStringS.x5 (y0 : Int) : Ex × St := (Ex.exit 0, mkG 0 28 [(1, AV.one (A1.v (Value.int IntKind.i64 y0)))] [] GL)
theorem wszStringS.e (a0 : List (List D)) (a1 : Int) :
    wszStringS [AV.one (A1.s a0), AV.one (A1.v (Value.int IntKind.i64 a1))] [] =
    bif decide (IntKind.i64.wrap (a1 - (↑a0.length : Int)) < 0) then some { cells := [TC.v (Value.int IntKind.i64 (-1))], objs := [] }
else (wszStringS.L5 a0 (IntKind.i64.wrap (a1 - (↑a0.length : Int))) 0).bind wszStringS.A5 := by
  refine (wszStringS.run _ _ (by kernel_rfl)).trans ?_
  delta wszStringS wszStringS.L5 wszStringS.A5 XX
  generalize lpL (Y.ctx (lim' Y)) 15 = lp
  generalize lim' Y = call
  kernel_rfl
theorem wszStringS.s5 (y0 : List (List D)) (y1 : Int) (y2 : Int) :
    wszStringS.L5 y0 y1 y2 =
    bif decide (y2 < (↑y0.length : Int)) then
  bif decide (0 ≤ y2) && decide (y2 < (↑y0.length : Int)) && decide ((y0.getD y2.toNat []).length = 1) then
    bif fitsRow [CK.str] (y0.getD y2.toNat []) 0 && decide (1 ≤ (y0.getD y2.toNat []).length) then
      bif decide (IntKind.i64.wrap (y1 - (↑((y0.getD y2.toNat []).getD 0 D.h).str.size : Int)) < 0) then
        some (wszStringS.q5 (IntKind.i64.wrap (y1 - (↑((y0.getD y2.toNat []).getD 0 D.h).str.size : Int))) (-1))
      else wszStringS.L5 y0 (IntKind.i64.wrap (y1 - (↑((y0.getD y2.toNat []).getD 0 D.h).str.size : Int))) (IntKind.i64.wrap (y2 + 1))
    else none
  else none
else some (wszStringS.x5 y1) := by
  refine (lpL_eq (Y := Y) (c := lim' Y) (fn := 15) (rid := 5) (b := bodyAt 5 wszStringS.c) (by kernel_rfl) _).trans ?_
  delta wszStringS.L5 wszStringS.q5 wszStringS.x5 XX
  generalize lpL (Y.ctx (lim' Y)) 15 = lp
  generalize lim' Y = call
  kernel_rfl
theorem wszStringS.a5q5 (y0 : Int) (y1 : Int) :
    wszStringS.A5 (wszStringS.q5 y0 y1) =
    some { cells := [TC.v (Value.int IntKind.i64 y1)], objs := [] } := by
  delta wszStringS.A5 wszStringS.q5 XX
  generalize lpL (Y.ctx (lim' Y)) 15 = lp
  generalize lim' Y = call
  kernel_rfl
theorem wszStringS.a5x5 (y0 : Int) :
    wszStringS.A5 (wszStringS.x5 y0) =
    some { cells := [TC.v (Value.int IntKind.i64 y0)], objs := [] } := by
  delta wszStringS.A5 wszStringS.x5 XX
  generalize lpL (Y.ctx (lim' Y)) 15 = lp
  generalize lim' Y = call
  kernel_rfl


noncomputable def sl2CallOk.P2 : Option Res := evK XX 16 (lpL XX 16) (dropC 2 sl2CallOk.c) (mkG 0 42 [] [] GL) (outE XX 16 Tryd.f16)
theorem sl2CallOk.e (a0 : Int) (a1 : List (List D)) (a2 : List (List D)) (a3 : Int) (a4 : ByteArray) :
    sl2CallOk [AV.g [A1.v (Value.int IntKind.i64 a0), A1.s a1, A1.s a2, A1.v (Value.int IntKind.i64 a3), A1.v (Value.string a4)]] [] =
    bif a0 == 1 then
  bif a0 == 1 then
    (sl2PathOk [AV.one (A1.s a1)] []).bind fun val =>
      bif fitsCells [R1.bool] val.1 && true then
        bif (val.1.getD 0 TC.d).bool then
          (sl1In [AV.one (A1.v (Value.int IntKind.i64 a3)), AV.one (A1.v (Value.int IntKind.i64 0)), AV.one (A1.v (Value.int IntKind.i64 7))] []).bind fun val =>
            bif fitsCells [R1.bool] val.1 && true then some { cells := [TC.v (Value.bool (val.1.getD 0 TC.d).bool)], objs := [] } else none
        else some { cells := [TC.v (Value.bool false)], objs := [] }
      else none
  else
    bif a0 == 2 then
      bif a0 == 2 then
        (sl2PathOk [AV.one (A1.s a1)] []).bind fun val =>
          bif fitsCells [R1.bool] val.1 && true then
            bif (val.1.getD 0 TC.d).bool then
              (sl1In [AV.one (A1.v (Value.int IntKind.i64 a3)), AV.one (A1.v (Value.int IntKind.i64 0)), AV.one (A1.v (Value.int IntKind.i64 24))] []).bind fun val =>
                bif fitsCells [R1.bool] val.1 && true then some { cells := [TC.v (Value.bool (val.1.getD 0 TC.d).bool)], objs := [] } else none
            else some { cells := [TC.v (Value.bool false)], objs := [] }
          else none
      else
        bif a0 == 4 then
          (sl2PathOk [AV.one (A1.s a1)] []).bind fun val => bif fitsCells [R1.bool] val.1 && true then some { cells := [TC.v (Value.bool (val.1.getD 0 TC.d).bool)], objs := [] } else none
        else
          bif a0 == 5 then
            (sl2PathOk [AV.one (A1.s a1)] []).bind fun val =>
              bif fitsCells [R1.bool] val.1 && true then
                bif (val.1.getD 0 TC.d).bool then
                  (sl2PathOk [AV.one (A1.s a2)] []).bind fun val => bif fitsCells [R1.bool] val.1 && true then some { cells := [TC.v (Value.bool (val.1.getD 0 TC.d).bool)], objs := [] } else none
                else some { cells := [TC.v (Value.bool false)], objs := [] }
              else none
          else sl2CallOk.P2
    else
      bif a0 == 3 then
        (sl2PathOk [AV.one (A1.s a1)] []).bind fun val =>
          bif fitsCells [R1.bool] val.1 && true then
            bif (val.1.getD 0 TC.d).bool then
              (sl1In [AV.one (A1.v (Value.int IntKind.i64 a3)), AV.one (A1.v (Value.int IntKind.i64 0)), AV.one (A1.v (Value.int IntKind.i64 24))] []).bind fun val =>
                bif fitsCells [R1.bool] val.1 && true then some { cells := [TC.v (Value.bool (val.1.getD 0 TC.d).bool)], objs := [] } else none
            else some { cells := [TC.v (Value.bool false)], objs := [] }
          else none
      else
        bif a0 == 4 then
          (sl2PathOk [AV.one (A1.s a1)] []).bind fun val => bif fitsCells [R1.bool] val.1 && true then some { cells := [TC.v (Value.bool (val.1.getD 0 TC.d).bool)], objs := [] } else none
        else
          bif a0 == 5 then
            (sl2PathOk [AV.one (A1.s a1)] []).bind fun val =>
              bif fitsCells [R1.bool] val.1 && true then
                bif (val.1.getD 0 TC.d).bool then
                  (sl2PathOk [AV.one (A1.s a2)] []).bind fun val => bif fitsCells [R1.bool] val.1 && true then some { cells := [TC.v (Value.bool (val.1.getD 0 TC.d).bool)], objs := [] } else none
                else some { cells := [TC.v (Value.bool false)], objs := [] }
              else none
          else sl2CallOk.P2
else
  bif a0 == 6 then
    (sl2PathOk [AV.one (A1.s a1)] []).bind fun val =>
      bif fitsCells [R1.bool] val.1 && true then
        bif (val.1.getD 0 TC.d).bool then
          (sl1In [AV.one (A1.v (Value.int IntKind.i64 a3)), AV.one (A1.v (Value.int IntKind.i64 0)), AV.one (A1.v (Value.int IntKind.i64 7))] []).bind fun val =>
            bif fitsCells [R1.bool] val.1 && true then some { cells := [TC.v (Value.bool (val.1.getD 0 TC.d).bool)], objs := [] } else none
        else some { cells := [TC.v (Value.bool false)], objs := [] }
      else none
  else
    bif a0 == 2 then
      bif a0 == 2 then
        (sl2PathOk [AV.one (A1.s a1)] []).bind fun val =>
          bif fitsCells [R1.bool] val.1 && true then
            bif (val.1.getD 0 TC.d).bool then
              (sl1In [AV.one (A1.v (Value.int IntKind.i64 a3)), AV.one (A1.v (Value.int IntKind.i64 0)), AV.one (A1.v (Value.int IntKind.i64 24))] []).bind fun val =>
                bif fitsCells [R1.bool] val.1 && true then some { cells := [TC.v (Value.bool (val.1.getD 0 TC.d).bool)], objs := [] } else none
            else some { cells := [TC.v (Value.bool false)], objs := [] }
          else none
      else
        bif a0 == 4 then
          (sl2PathOk [AV.one (A1.s a1)] []).bind fun val => bif fitsCells [R1.bool] val.1 && true then some { cells := [TC.v (Value.bool (val.1.getD 0 TC.d).bool)], objs := [] } else none
        else
          bif a0 == 5 then
            (sl2PathOk [AV.one (A1.s a1)] []).bind fun val =>
              bif fitsCells [R1.bool] val.1 && true then
                bif (val.1.getD 0 TC.d).bool then
                  (sl2PathOk [AV.one (A1.s a2)] []).bind fun val => bif fitsCells [R1.bool] val.1 && true then some { cells := [TC.v (Value.bool (val.1.getD 0 TC.d).bool)], objs := [] } else none
                else some { cells := [TC.v (Value.bool false)], objs := [] }
              else none
          else sl2CallOk.P2
    else
      bif a0 == 3 then
        (sl2PathOk [AV.one (A1.s a1)] []).bind fun val =>
          bif fitsCells [R1.bool] val.1 && true then
            bif (val.1.getD 0 TC.d).bool then
              (sl1In [AV.one (A1.v (Value.int IntKind.i64 a3)), AV.one (A1.v (Value.int IntKind.i64 0)), AV.one (A1.v (Value.int IntKind.i64 24))] []).bind fun val =>
                bif fitsCells [R1.bool] val.1 && true then some { cells := [TC.v (Value.bool (val.1.getD 0 TC.d).bool)], objs := [] } else none
            else some { cells := [TC.v (Value.bool false)], objs := [] }
          else none
      else
        bif a0 == 4 then
          (sl2PathOk [AV.one (A1.s a1)] []).bind fun val => bif fitsCells [R1.bool] val.1 && true then some { cells := [TC.v (Value.bool (val.1.getD 0 TC.d).bool)], objs := [] } else none
        else
          bif a0 == 5 then
            (sl2PathOk [AV.one (A1.s a1)] []).bind fun val =>
              bif fitsCells [R1.bool] val.1 && true then
                bif (val.1.getD 0 TC.d).bool then
                  (sl2PathOk [AV.one (A1.s a2)] []).bind fun val => bif fitsCells [R1.bool] val.1 && true then some { cells := [TC.v (Value.bool (val.1.getD 0 TC.d).bool)], objs := [] } else none
                else some { cells := [TC.v (Value.bool false)], objs := [] }
              else none
          else sl2CallOk.P2 := by
  refine (sl2CallOk.run _ _ (by kernel_rfl)).trans ?_
  delta sl2CallOk sl2PathOk sl1In sl2CallOk.P2 XX
  refine cut_use0 1 2 rfl (sl2CallOk.c) (by kernel_rfl) fun K e1 => ?_
  try simp only [← e1]
  clear e1
  generalize lpL (Y.ctx (lim' Y)) 16 = lp
  generalize lim' Y = call
  kernel_rfl
theorem sl2CallOk.p2 :
    sl2CallOk.P2 =
    some { cells := [TC.v (Value.bool false)], objs := [] } := by
  delta sl2CallOk.P2 XX
  generalize lpL (Y.ctx (lim' Y)) 16 = lp
  generalize lim' Y = call
  kernel_rfl


theorem sl42Words.e :
    sl42Words [] [] =
    some
  {
    cells :=
      [TC.o Own.deep
          [[D.v (Value.string (ByteArray.mk #[]))], [D.v (Value.string (ByteArray.mk #[109, 107, 100, 105, 114]))],
            [D.v (Value.string (ByteArray.mk #[119, 114, 105, 116, 101]))],
            [D.v (Value.string (ByteArray.mk #[116, 114, 117, 110, 99, 97, 116, 101]))],
            [D.v (Value.string (ByteArray.mk #[114, 101, 109, 111, 118, 101]))],
            [D.v (Value.string (ByteArray.mk #[114, 101, 110, 97, 109, 101]))],
            [D.v (Value.string (ByteArray.mk #[99, 104, 109, 111, 100]))]]],
    objs := [] } := by
  refine (sl42Words.run _ _ (by kernel_rfl)).trans ?_
  delta sl42Words XX
  generalize lpL (Y.ctx (lim' Y)) 17 = lp
  generalize lim' Y = call
  kernel_rfl


noncomputable def sl3Name.L3 (y0 : List (List D)) (y1 : ByteArray) (y2 : Int) : Option (Ex × St) := lpL XX 18 (bodyAt 3 sl3Name.c) (mkG 0 21 [(0, AV.one (A1.s y0)), (3, AV.one (A1.v (Value.string y1))), (4, AV.one (A1.v (Value.int IntKind.i64 y2)))] [] GL)
noncomputable def sl3Name.A3 : Ex × St → Option Res := fun r => evA XX 18 (lpL XX 18) 3 sl3Name.c r.fst r.snd (outE XX 18 Tryd.f18)
noncomputable def sl3Name.x3 (y0 : ByteArray) : Ex × St := (Ex.exit 0, mkG 0 21 [(3, AV.one (A1.v (Value.string y0)))] [] GL)
theorem sl3Name.e (a0 : List (List D)) :
    sl3Name [AV.one (A1.s a0)] [] =
    (sl3Name.L3 a0 (ByteArray.mk #[]) 0).bind sl3Name.A3 := by
  refine (sl3Name.run _ _ (by kernel_rfl)).trans ?_
  delta sl3Name sl3Name.L3 sl3Name.A3 XX
  generalize lpL (Y.ctx (lim' Y)) 18 = lp
  generalize lim' Y = call
  kernel_rfl
theorem sl3Name.s3 (y0 : List (List D)) (y1 : ByteArray) (y2 : Int) :
    sl3Name.L3 y0 y1 y2 =
    bif decide (y2 < (↑y0.length : Int)) then
  bif decide (y1.size + 1 ≤ 70368744177664) then
    bif decide (0 ≤ y2) && decide (y2 < (↑y0.length : Int)) && decide ((y0.getD y2.toNat []).length = 1) then
      bif fitsRow [CK.str] (y0.getD y2.toNat []) 0 && decide (1 ≤ (y0.getD y2.toNat []).length) then
        bif decide ((y1 ++ (ByteArray.mk #[47])).size + ((y0.getD y2.toNat []).getD 0 D.h).str.size ≤ 70368744177664) then
          sl3Name.L3 y0 (y1 ++ (ByteArray.mk #[47]) ++ ((y0.getD y2.toNat []).getD 0 D.h).str) (IntKind.i64.wrap (y2 + 1))
        else none
      else none
    else none
  else none
else some (sl3Name.x3 y1) := by
  refine (lpL_eq (Y := Y) (c := lim' Y) (fn := 18) (rid := 3) (b := bodyAt 3 sl3Name.c) (by kernel_rfl) _).trans ?_
  delta sl3Name.L3 sl3Name.x3 XX
  generalize lpL (Y.ctx (lim' Y)) 18 = lp
  generalize lim' Y = call
  kernel_rfl
theorem sl3Name.a3x3 (y0 : ByteArray) :
    sl3Name.A3 (sl3Name.x3 y0) =
    bif y0.toList == [] then some { cells := [TC.v (Value.string (ByteArray.mk #[47]))], objs := [] } else some { cells := [TC.v (Value.string y0)], objs := [] } := by
  delta sl3Name.A3 sl3Name.x3 XX
  generalize lpL (Y.ctx (lim' Y)) 18 = lp
  generalize lim' Y = call
  kernel_rfl


noncomputable def sl1Dec.P3 (y0 : Int) : Option Res := evK XX 19 (lpL XX 19) (dropC 3 sl1Dec.c) (mkG 0 28 [(0, AV.one (A1.v (Value.int IntKind.i64 y0)))] [] GL) (outE XX 19 Tryd.f19)
theorem sl1Dec.e (a0 : Int) :
    sl1Dec [AV.one (A1.v (Value.int IntKind.i64 a0))] [] =
    bif decide (a0 < -9223372036854775807) then
  some
    {
      cells :=
        [TC.v
            (Value.string
              (ByteArray.mk #[45, 57, 50, 50, 51, 51, 55, 50, 48, 51, 54, 56, 53, 52, 55, 55, 53, 56, 48, 56]))],
      objs := [] }
else
  bif decide (a0 < 0) then
    (sl1Dec [AV.one (A1.v (Value.int IntKind.i64 (IntKind.i64.wrap (0 - a0))))] []).bind fun val =>
      bif fitsCells [R1.str] val.1 && true then
        bif decide (1 + (val.1.getD 0 TC.d).str.size ≤ 70368744177664) then some { cells := [TC.v (Value.string ((ByteArray.mk #[45]) ++ (val.1.getD 0 TC.d).str))], objs := [] } else none
      else none
  else sl1Dec.P3 a0 := by
  refine (sl1Dec.run _ _ (by kernel_rfl)).trans ?_
  delta sl1Dec sl1Dec.P3 XX
  refine cut_use0 2 3 rfl (sl1Dec.c) (by kernel_rfl) fun K e1 => ?_
  try simp only [← e1]
  clear e1
  generalize lpL (Y.ctx (lim' Y)) 19 = lp
  generalize lim' Y = call
  kernel_rfl
theorem sl1Dec.p3 (y0 : Int) :
    sl1Dec.P3 y0 =
    bif decide (y0 < 10) then some { cells := [TC.v (Value.string (strOf [[D.v (Value.int IntKind.u8 (IntKind.u8.wrap (IntKind.i64.wrap (48 + y0))))]]))], objs := [] }
else
  (sl1Dec [AV.one (A1.v (Value.int IntKind.i64 (IntKind.i64.wrap (y0.tdiv 10))))] []).bind fun val =>
    bif fitsCells [R1.str] val.1 && true then
      bif decide ((val.1.getD 0 TC.d).str.size + 1 ≤ 70368744177664) then
        some { cells := [TC.v (Value.string ((val.1.getD 0 TC.d).str ++ strOf [[D.v (Value.int IntKind.u8 (IntKind.u8.wrap (IntKind.i64.wrap (48 + y0.tmod 10))))]]))], objs := [] }
      else none
    else none := by
  delta sl1Dec.P3 sl1Dec XX
  generalize lpL (Y.ctx (lim' Y)) 19 = lp
  generalize lim' Y = call
  kernel_rfl


noncomputable def sl1Hex.L3 (y0 : ByteArray) (y1 : ByteArray) (y2 : Int) : Option (Ex × St) := lpL XX 20 (bodyAt 3 sl1Hex.c) (mkG 0 37 [(0, AV.one (A1.v (Value.string y0))), (3, AV.one (A1.v (Value.string y1))), (4, AV.one (A1.v (Value.int IntKind.i64 y2)))] [] GL)
noncomputable def sl1Hex.A3 : Ex × St → Option Res := fun r => evA XX 20 (lpL XX 20) 3 sl1Hex.c r.fst r.snd (outE XX 20 Tryd.f20)
noncomputable def sl1Hex.x3 (y0 : ByteArray) : Ex × St := (Ex.exit 0, mkG 0 37 [(3, AV.one (A1.v (Value.string y0)))] [] GL)
theorem sl1Hex.e (a0 : ByteArray) :
    sl1Hex [AV.one (A1.v (Value.string a0))] [] =
    (sl1Hex.L3 a0 (ByteArray.mk #[]) 0).bind sl1Hex.A3 := by
  refine (sl1Hex.run _ _ (by kernel_rfl)).trans ?_
  delta sl1Hex sl1Hex.L3 sl1Hex.A3 XX
  generalize lpL (Y.ctx (lim' Y)) 20 = lp
  generalize lim' Y = call
  kernel_rfl
theorem sl1Hex.s3 (y0 : ByteArray) (y1 : ByteArray) (y2 : Int) :
    sl1Hex.L3 y0 y1 y2 =
    bif decide (y2 < (↑y0.size : Int)) then
  bif decide (0 ≤ y2) && decide (y2 < (↑y0.size : Int)) then
    bif decide (0 ≤ y2) && decide (y2 < (↑y0.size : Int)) then
      bif
          decide (IntKind.u8.wrap ((byteAt y0 y2.toNat).tdiv 16) ≤ IntKind.u8.wrap (IntKind.u8.wrap ((byteAt y0 y2.toNat).tdiv 16) + 1)) &&
            decide (IntKind.u8.wrap (IntKind.u8.wrap ((byteAt y0 y2.toNat).tdiv 16) + 1) ≤ (↑(ByteArray.mk #[48, 49, 50, 51, 52, 53, 54, 55, 56, 57, 97, 98, 99, 100, 101, 102]).size : Int)) then
        bif
            decide
              (y1.size +
                  ((ByteArray.mk #[48, 49, 50, 51, 52, 53, 54, 55, 56, 57, 97, 98, 99, 100, 101, 102]).extract
                      (IntKind.u8.wrap ((byteAt y0 y2.toNat).tdiv 16)).toNat (IntKind.u8.wrap (IntKind.u8.wrap ((byteAt y0 y2.toNat).tdiv 16) + 1)).toNat).size ≤
                70368744177664) then
          bif decide (0 ≤ y2) && decide (y2 < (↑y0.size : Int)) then
            bif decide (0 ≤ y2) && decide (y2 < (↑y0.size : Int)) then
              bif
                  decide ((byteAt y0 y2.toNat).tmod 16 ≤ IntKind.u8.wrap ((byteAt y0 y2.toNat).tmod 16 + 1)) &&
                    decide (IntKind.u8.wrap ((byteAt y0 y2.toNat).tmod 16 + 1) ≤ (↑(ByteArray.mk #[48, 49, 50, 51, 52, 53, 54, 55, 56, 57, 97, 98, 99, 100, 101, 102]).size : Int)) then
                bif
                    decide
                      ((y1 ++
                              (ByteArray.mk #[48, 49, 50, 51, 52, 53, 54, 55, 56, 57, 97, 98, 99, 100, 101, 102]).extract
                                (IntKind.u8.wrap ((byteAt y0 y2.toNat).tdiv 16)).toNat (IntKind.u8.wrap (IntKind.u8.wrap ((byteAt y0 y2.toNat).tdiv 16) + 1)).toNat).size +
                          ((ByteArray.mk #[48, 49, 50, 51, 52, 53, 54, 55, 56, 57, 97, 98, 99, 100, 101, 102]).extract
                              ((byteAt y0 y2.toNat).tmod 16).toNat (IntKind.u8.wrap ((byteAt y0 y2.toNat).tmod 16 + 1)).toNat).size ≤
                        70368744177664) then
                  sl1Hex.L3 y0
                    (y1 ++
                        (ByteArray.mk #[48, 49, 50, 51, 52, 53, 54, 55, 56, 57, 97, 98, 99, 100, 101, 102]).extract
                          (IntKind.u8.wrap ((byteAt y0 y2.toNat).tdiv 16)).toNat (IntKind.u8.wrap (IntKind.u8.wrap ((byteAt y0 y2.toNat).tdiv 16) + 1)).toNat ++
                      (ByteArray.mk #[48, 49, 50, 51, 52, 53, 54, 55, 56, 57, 97, 98, 99, 100, 101, 102]).extract
                        ((byteAt y0 y2.toNat).tmod 16).toNat (IntKind.u8.wrap ((byteAt y0 y2.toNat).tmod 16 + 1)).toNat)
                    (IntKind.i64.wrap (y2 + 1))
                else none
              else none
            else none
          else none
        else none
      else none
    else none
  else none
else some (sl1Hex.x3 y1) := by
  refine (lpL_eq (Y := Y) (c := lim' Y) (fn := 20) (rid := 3) (b := bodyAt 3 sl1Hex.c) (by kernel_rfl) _).trans ?_
  delta sl1Hex.L3 sl1Hex.x3 XX
  generalize lpL (Y.ctx (lim' Y)) 20 = lp
  generalize lim' Y = call
  kernel_rfl
theorem sl1Hex.a3x3 (y0 : ByteArray) :
    sl1Hex.A3 (sl1Hex.x3 y0) =
    bif y0.toList == [] then some { cells := [TC.v (Value.string (ByteArray.mk #[45]))], objs := [] } else some { cells := [TC.v (Value.string y0)], objs := [] } := by
  delta sl1Hex.A3 sl1Hex.x3 XX
  generalize lpL (Y.ctx (lim' Y)) 20 = lp
  generalize lim' Y = call
  kernel_rfl


noncomputable def wtoStringS.L3 (y0 : List (List D)) (y1 : Int) (y2 : List (List D)) : Option (Ex × St) := lpL XX 21 (bodyAt 3 wtoStringS.c)
  (mkG 0 22 [(0, AV.one (A1.s y0)), (3, AV.one (A1.r 3 [] 0)), (4, AV.one (A1.v (Value.int IntKind.i64 y1)))] [(3, some { kind := Kind.virt, row := [D.s y2], fl := [Own.deep] })] GL)
noncomputable def wtoStringS.A3 : Ex × St → Option Res := fun r => evA XX 21 (lpL XX 21) 3 wtoStringS.c r.fst r.snd (outE XX 21 Tryd.f21)
noncomputable def wtoStringS.x3 (y0 : List (List D)) : Ex × St := (Ex.exit 0, mkG 0 22 [(3, AV.one (A1.r 3 [] 0))] [(3, some { kind := Kind.virt, row := [D.s y0], fl := [Own.deep] })] GL)
theorem wtoStringS.e (a0 : List (List D)) :
    wtoStringS [AV.one (A1.s a0)] [] =
    bif decide ((↑a0.length : Int) * ((↑16 : Int) + 1) ≤ 2 ^ 46) && true && true then (wtoStringS.L3 a0 0 (List.replicate (↑a0.length : Int).toNat [D.v (Value.string (ByteArray.mk #[]))])).bind wtoStringS.A3
else none := by
  refine (wtoStringS.run _ _ (by kernel_rfl)).trans ?_
  delta wtoStringS wtoStringS.L3 wtoStringS.A3 XX
  generalize lpL (Y.ctx (lim' Y)) 21 = lp
  generalize lim' Y = call
  kernel_rfl
theorem wtoStringS.s3 (y0 : List (List D)) (y1 : Int) (y2 : List (List D)) :
    wtoStringS.L3 y0 y1 y2 =
    bif decide (y1 < (↑y0.length : Int)) then
  bif decide (0 ≤ y1) && decide (y1 < (↑y0.length : Int)) && decide ((y0.getD y1.toNat []).length = 1) then
    bif fitsRow [CK.str] (y0.getD y1.toNat []) 0 && decide (1 ≤ (y0.getD y1.toNat []).length) then
      bif decide (0 ≤ y1) && decide (y1 < (↑y2.length : Int)) && decide ((y2.getD y1.toNat []).length = 1) then
        bif decide (1 ≤ (y2.getD y1.toNat []).length) && true then
          wtoStringS.L3 y0 (IntKind.i64.wrap (y1 + 1)) (y2.set y1.toNat (D.v (Value.string ((y0.getD y1.toNat []).getD 0 D.h).str) :: List.drop 1 (y2.getD y1.toNat [])))
        else none
      else none
    else none
  else none
else some (wtoStringS.x3 y2) := by
  refine (lpL_eq (Y := Y) (c := lim' Y) (fn := 21) (rid := 3) (b := bodyAt 3 wtoStringS.c) (by kernel_rfl) _).trans ?_
  delta wtoStringS.L3 wtoStringS.x3 XX
  generalize lpL (Y.ctx (lim' Y)) 21 = lp
  generalize lim' Y = call
  kernel_rfl
theorem wtoStringS.a3x3 (y0 : List (List D)) :
    wtoStringS.A3 (wtoStringS.x3 y0) =
    some { cells := [TC.o Own.deep y0], objs := [] } := by
  delta wtoStringS.A3 wtoStringS.x3 XX
  generalize lpL (Y.ctx (lim' Y)) 21 = lp
  generalize lim' Y = call
  kernel_rfl


noncomputable def iCall_isCall.P2 (y0 : Int) (y1 : List (List D)) (y2 : List (List D)) (y3 : Int) (y4 : ByteArray) : Option Res := evK XX 22 (lpL XX 22) (dropC 2 iCall_isCall.c)
  (mkG 0 32 [(1, AV.one (A1.p true 1 [] 0))]
    [(1,
        some
          { kind := Kind.box, row := [D.v (Value.int IntKind.i64 y0), D.s y1, D.s y2, D.v (Value.int IntKind.i64 y3), D.v (Value.string y4)], fl := [Own.deep, Own.sh, Own.sh, Own.deep, Own.deep] })]
    GL)
  (outE XX 22 Tryd.f22)
noncomputable def iCall_isCall.P3 : Option Res := evK XX 22 (lpL XX 22) (dropC 3 iCall_isCall.c) (mkG 0 32 [] [] GL) (outE XX 22 Tryd.f22)
theorem iCall_isCall.e (a0 : Int) (a1 : List (List D)) (a2 : List (List D)) (a3 : Int) (a4 : ByteArray) :
    iCall_isCall [AV.g [A1.v (Value.int IntKind.i64 a0), A1.s a1, A1.s a2, A1.v (Value.int IntKind.i64 a3), A1.v (Value.string a4)]] [] =
    (iwithin [AV.one (A1.v (Value.int IntKind.i64 a0)), AV.one (A1.v (Value.int IntKind.i64 1)), AV.one (A1.v (Value.int IntKind.i64 6))] []).bind fun val =>
  bif fitsCells [R1.bool] val.1 && true then
    bif !(val.1.getD 0 TC.d).bool then some { cells := [TC.v (Value.bool false)], objs := [] }
    else
      (inamesOk [AV.one (A1.s a1), AV.one (A1.v (Value.int IntKind.i64 1))] []).bind fun val =>
        bif fitsCells [R1.bool] val.1 && true then bif !(val.1.getD 0 TC.d).bool then some { cells := [TC.v (Value.bool false)], objs := [] } else iCall_isCall.P2 a0 a1 a2 a3 a4 else none
  else none := by
  refine (iCall_isCall.run _ _ (by kernel_rfl)).trans ?_
  delta iCall_isCall iwithin inamesOk iCall_isCall.P2 XX
  refine cut_use0 1 2 rfl (iCall_isCall.c) (by kernel_rfl) fun K e1 => ?_
  try simp only [← e1]
  clear e1
  generalize lpL (Y.ctx (lim' Y)) 22 = lp
  generalize lim' Y = call
  kernel_rfl
theorem iCall_isCall.p2 (y0 : Int) (y1 : List (List D)) (y2 : List (List D)) (y3 : Int) (y4 : ByteArray) :
    iCall_isCall.P2 y0 y1 y2 y3 y4 =
    bif y0 == 1 then
  bif y0 == 1 then
    (imodeOk [AV.one (A1.v (Value.int IntKind.i64 y3))] []).bind fun val =>
      bif fitsCells [R1.bool] val.1 && true then some { cells := [TC.v (Value.bool (val.1.getD 0 TC.d).bool)], objs := [] } else none
  else
    bif y0 == 2 then
      bif y0 == 2 then
        (iwithin [AV.one (A1.v (Value.int IntKind.i64 y3)), AV.one (A1.v (Value.int IntKind.i64 0)), AV.one (A1.v (Value.int IntKind.i64 24))] []).bind fun val =>
          bif fitsCells [R1.bool] val.1 && true then some { cells := [TC.v (Value.bool (val.1.getD 0 TC.d).bool)], objs := [] } else none
      else
        bif y0 == 5 then
          (inamesOk [AV.one (A1.s y2), AV.one (A1.v (Value.int IntKind.i64 1))] []).bind fun val =>
            bif fitsCells [R1.bool] val.1 && true then some { cells := [TC.v (Value.bool (val.1.getD 0 TC.d).bool)], objs := [] } else none
        else iCall_isCall.P3
    else
      bif y0 == 3 then
        (iwithin [AV.one (A1.v (Value.int IntKind.i64 y3)), AV.one (A1.v (Value.int IntKind.i64 0)), AV.one (A1.v (Value.int IntKind.i64 24))] []).bind fun val =>
          bif fitsCells [R1.bool] val.1 && true then some { cells := [TC.v (Value.bool (val.1.getD 0 TC.d).bool)], objs := [] } else none
      else
        bif y0 == 5 then
          (inamesOk [AV.one (A1.s y2), AV.one (A1.v (Value.int IntKind.i64 1))] []).bind fun val =>
            bif fitsCells [R1.bool] val.1 && true then some { cells := [TC.v (Value.bool (val.1.getD 0 TC.d).bool)], objs := [] } else none
        else iCall_isCall.P3
else
  bif y0 == 6 then
    (imodeOk [AV.one (A1.v (Value.int IntKind.i64 y3))] []).bind fun val =>
      bif fitsCells [R1.bool] val.1 && true then some { cells := [TC.v (Value.bool (val.1.getD 0 TC.d).bool)], objs := [] } else none
  else
    bif y0 == 2 then
      bif y0 == 2 then
        (iwithin [AV.one (A1.v (Value.int IntKind.i64 y3)), AV.one (A1.v (Value.int IntKind.i64 0)), AV.one (A1.v (Value.int IntKind.i64 24))] []).bind fun val =>
          bif fitsCells [R1.bool] val.1 && true then some { cells := [TC.v (Value.bool (val.1.getD 0 TC.d).bool)], objs := [] } else none
      else
        bif y0 == 5 then
          (inamesOk [AV.one (A1.s y2), AV.one (A1.v (Value.int IntKind.i64 1))] []).bind fun val =>
            bif fitsCells [R1.bool] val.1 && true then some { cells := [TC.v (Value.bool (val.1.getD 0 TC.d).bool)], objs := [] } else none
        else iCall_isCall.P3
    else
      bif y0 == 3 then
        (iwithin [AV.one (A1.v (Value.int IntKind.i64 y3)), AV.one (A1.v (Value.int IntKind.i64 0)), AV.one (A1.v (Value.int IntKind.i64 24))] []).bind fun val =>
          bif fitsCells [R1.bool] val.1 && true then some { cells := [TC.v (Value.bool (val.1.getD 0 TC.d).bool)], objs := [] } else none
      else
        bif y0 == 5 then
          (inamesOk [AV.one (A1.s y2), AV.one (A1.v (Value.int IntKind.i64 1))] []).bind fun val =>
            bif fitsCells [R1.bool] val.1 && true then some { cells := [TC.v (Value.bool (val.1.getD 0 TC.d).bool)], objs := [] } else none
        else iCall_isCall.P3 := by
  delta iCall_isCall.P2 imodeOk iwithin inamesOk iCall_isCall.P3 XX
  refine cut_use 2 0 3 rfl (iCall_isCall.c) (by kernel_rfl) fun K e1 => ?_
  try simp only [← e1]
  clear e1
  generalize lpL (Y.ctx (lim' Y)) 22 = lp
  generalize lim' Y = call
  kernel_rfl
theorem iCall_isCall.p3 :
    iCall_isCall.P3 =
    some { cells := [TC.v (Value.bool true)], objs := [] } := by
  delta iCall_isCall.P3 XX
  generalize lpL (Y.ctx (lim' Y)) 22 = lp
  generalize lim' Y = call
  kernel_rfl


theorem ipathText.e (a0 : List (List D)) :
    ipathText [AV.one (A1.s a0)] [] =
    bif (↑a0.length : Int) == 0 then some { cells := [TC.v (Value.string (ByteArray.mk #[47]))], objs := [] }
else
  (strings_Join [AV.one (A1.s a0), AV.one (A1.v (Value.string (ByteArray.mk #[47])))] []).bind fun val =>
    bif fitsCells [R1.str] val.1 && true then
      bif decide (1 + (val.1.getD 0 TC.d).str.size ≤ 70368744177664) then some { cells := [TC.v (Value.string ((ByteArray.mk #[47]) ++ (val.1.getD 0 TC.d).str))], objs := [] } else none
    else none := by
  refine (ipathText.run _ _ (by kernel_rfl)).trans ?_
  delta ipathText strings_Join XX
  generalize lpL (Y.ctx (lim' Y)) 23 = lp
  generalize lim' Y = call
  kernel_rfl


theorem idataText.e (a0 : ByteArray) :
    idataText [AV.one (A1.v (Value.string a0))] [] =
    bif a0.toList == [] then some { cells := [TC.v (Value.string (ByteArray.mk #[45]))], objs := [] }
else (ihexOf [AV.one (A1.v (Value.string a0))] []).bind fun val => bif fitsCells [R1.str] val.1 && true then some { cells := [TC.v (Value.string (val.1.getD 0 TC.d).str)], objs := [] } else none := by
  refine (idataText.run _ _ (by kernel_rfl)).trans ?_
  delta idataText ihexOf XX
  generalize lpL (Y.ctx (lim' Y)) 25 = lp
  generalize lim' Y = call
  kernel_rfl


noncomputable def weqStringS.L4 (y0 : List (List D)) (y1 : List (List D)) (y2 : Int) : Option (Ex × St) := lpL XX 26 (bodyAt 4 weqStringS.c) (mkG 0 26 [(0, AV.one (A1.s y0)), (1, AV.one (A1.s y1)), (5, AV.one (A1.v (Value.int IntKind.i64 y2)))] [] GL)
noncomputable def weqStringS.A4 : Ex × St → Option Res := fun r => evA XX 26 (lpL XX 26) 4 weqStringS.c r.fst r.snd (outE XX 26 Tryd.f26)
noncomputable def weqStringS.q4 (y0 : Bool) : Ex × St := (Ex.ret, mkG 0 26 [(4, AV.one (A1.v (Value.bool y0)))] [] GL)
noncomputable def weqStringS.x4 : Ex × St := (Ex.exit 0, mkG 0 26 [] [] GL)
theorem weqStringS.e (a0 : List (List D)) (a1 : List (List D)) :
    weqStringS [AV.one (A1.s a0), AV.one (A1.s a1)] [] =
    bif (↑a0.length : Int) != (↑a1.length : Int) then some { cells := [TC.v (Value.bool false)], objs := [] } else (weqStringS.L4 a0 a1 0).bind weqStringS.A4 := by
  refine (weqStringS.run _ _ (by kernel_rfl)).trans ?_
  delta weqStringS weqStringS.L4 weqStringS.A4 XX
  generalize lpL (Y.ctx (lim' Y)) 26 = lp
  generalize lim' Y = call
  kernel_rfl
theorem weqStringS.s4 (y0 : List (List D)) (y1 : List (List D)) (y2 : Int) :
    weqStringS.L4 y0 y1 y2 =
    bif decide (y2 < (↑y0.length : Int)) then
  bif decide (0 ≤ y2) && decide (y2 < (↑y0.length : Int)) && decide ((y0.getD y2.toNat []).length = 1) then
    bif fitsRow [CK.str] (y0.getD y2.toNat []) 0 && decide (1 ≤ (y0.getD y2.toNat []).length) then
      bif decide (0 ≤ y2) && decide (y2 < (↑y1.length : Int)) && decide ((y1.getD y2.toNat []).length = 1) then
        bif fitsRow [CK.str] (y1.getD y2.toNat []) 0 && decide (1 ≤ (y1.getD y2.toNat []).length) then
          bif !((y0.getD y2.toNat []).getD 0 D.h).str.toList == ((y1.getD y2.toNat []).getD 0 D.h).str.toList then some (weqStringS.q4 false) else weqStringS.L4 y0 y1 (IntKind.i64.wrap (y2 + 1))
        else none
      else none
    else none
  else none
else some weqStringS.x4 := by
  refine (lpL_eq (Y := Y) (c := lim' Y) (fn := 26) (rid := 4) (b := bodyAt 4 weqStringS.c) (by kernel_rfl) _).trans ?_
  delta weqStringS.L4 weqStringS.q4 weqStringS.x4 XX
  generalize lpL (Y.ctx (lim' Y)) 26 = lp
  generalize lim' Y = call
  kernel_rfl
theorem weqStringS.a4q4 (y0 : Bool) :
    weqStringS.A4 (weqStringS.q4 y0) =
    some { cells := [TC.v (Value.bool y0)], objs := [] } := by
  delta weqStringS.A4 weqStringS.q4 XX
  generalize lpL (Y.ctx (lim' Y)) 26 = lp
  generalize lim' Y = call
  kernel_rfl
theorem weqStringS.a4x4 :
    weqStringS.A4 weqStringS.x4 =
    some { cells := [TC.v (Value.bool true)], objs := [] } := by
  delta weqStringS.A4 weqStringS.x4 XX
  generalize lpL (Y.ctx (lim' Y)) 26 = lp
  generalize lim' Y = call
  kernel_rfl


noncomputable def sl2PathOk.L2 (y0 : List (List D)) (y1 : Int) : Option (Ex × St) := lpL XX 32 (bodyAt 2 sl2PathOk.c) (mkG 0 19 [(0, AV.one (A1.s y0)), (3, AV.one (A1.v (Value.int IntKind.i64 y1)))] [] GL)
noncomputable def sl2PathOk.A2 : Ex × St → Option Res := fun r => evA XX 32 (lpL XX 32) 2 sl2PathOk.c r.fst r.snd (outE XX 32 Tryd.f32)
noncomputable def sl2PathOk.q2 (y0 : List (List D)) (y1 : Bool) : Ex × St := (Ex.ret, mkG 0 19 [(0, AV.one (A1.s y0)), (2, AV.one (A1.v (Value.bool y1)))] [] GL)
noncomputable def sl2PathOk.x2 (y0 : List (List D)) : Ex × St := (Ex.exit 0, mkG 0 19 [(0, AV.one (A1.s y0))] [] GL)
theorem sl2PathOk.e (a0 : List (List D)) :
    sl2PathOk [AV.one (A1.s a0)] [] =
    (sl2PathOk.L2 a0 0).bind sl2PathOk.A2 := by
  refine (sl2PathOk.run _ _ (by kernel_rfl)).trans ?_
  delta sl2PathOk sl2PathOk.L2 sl2PathOk.A2 XX
  generalize lpL (Y.ctx (lim' Y)) 32 = lp
  generalize lim' Y = call
  kernel_rfl
theorem sl2PathOk.s2 (y0 : List (List D)) (y1 : Int) :
    sl2PathOk.L2 y0 y1 =
    bif decide (y1 < (↑y0.length : Int)) then
  bif decide (0 ≤ y1) && decide (y1 < (↑y0.length : Int)) && decide ((y0.getD y1.toNat []).length = 1) then
    bif fitsRow [CK.str] (y0.getD y1.toNat []) 0 && decide (1 ≤ (y0.getD y1.toNat []).length) then
      (sl1NameOk [AV.one (A1.v (Value.string ((y0.getD y1.toNat []).getD 0 D.h).str))] []).bind fun val =>
        bif fitsCells [R1.bool] val.1 && true then bif !(val.1.getD 0 TC.d).bool then some (sl2PathOk.q2 y0 false) else sl2PathOk.L2 y0 (IntKind.i64.wrap (y1 + 1)) else none
    else none
  else none
else some (sl2PathOk.x2 y0) := by
  refine (lpL_eq (Y := Y) (c := lim' Y) (fn := 32) (rid := 2) (b := bodyAt 2 sl2PathOk.c) (by kernel_rfl) _).trans ?_
  delta sl2PathOk.L2 sl1NameOk sl2PathOk.q2 sl2PathOk.x2 XX
  generalize lpL (Y.ctx (lim' Y)) 32 = lp
  generalize lim' Y = call
  kernel_rfl
theorem sl2PathOk.a2q2 (y0 : List (List D)) (y1 : Bool) :
    sl2PathOk.A2 (sl2PathOk.q2 y0 y1) =
    some { cells := [TC.v (Value.bool y1)], objs := [] } := by
  delta sl2PathOk.A2 sl2PathOk.q2 XX
  generalize lpL (Y.ctx (lim' Y)) 32 = lp
  generalize lim' Y = call
  kernel_rfl
theorem sl2PathOk.a2x2 (y0 : List (List D)) :
    sl2PathOk.A2 (sl2PathOk.x2 y0) =
    (sl1In [AV.one (A1.v (Value.int IntKind.i64 (↑y0.length : Int))), AV.one (A1.v (Value.int IntKind.i64 1)), AV.one (A1.v (Value.int IntKind.i64 4))] []).bind fun val =>
  bif fitsCells [R1.bool] val.1 && true then some { cells := [TC.v (Value.bool (val.1.getD 0 TC.d).bool)], objs := [] } else none := by
  delta sl2PathOk.A2 sl2PathOk.x2 sl1In XX
  generalize lpL (Y.ctx (lim' Y)) 32 = lp
  generalize lim' Y = call
  kernel_rfl


theorem sl1In.e (a0 : Int) (a1 : Int) (a2 : Int) :
    sl1In [AV.one (A1.v (Value.int IntKind.i64 a0)), AV.one (A1.v (Value.int IntKind.i64 a1)), AV.one (A1.v (Value.int IntKind.i64 a2))] [] =
    bif decide (a0 ≥ a1) then some { cells := [TC.v (Value.bool (decide (a0 ≤ a2)))], objs := [] } else some { cells := [TC.v (Value.bool false)], objs := [] } := by
  refine (sl1In.run _ _ (by kernel_rfl)).trans ?_
  delta sl1In XX
  generalize lpL (Y.ctx (lim' Y)) 33 = lp
  generalize lim' Y = call
  kernel_rfl


theorem iwithin.e (a0 : Int) (a1 : Int) (a2 : Int) :
    iwithin [AV.one (A1.v (Value.int IntKind.i64 a0)), AV.one (A1.v (Value.int IntKind.i64 a1)), AV.one (A1.v (Value.int IntKind.i64 a2))] [] =
    bif decide (a0 ≥ a1) then some { cells := [TC.v (Value.bool (decide (a0 ≤ a2)))], objs := [] } else some { cells := [TC.v (Value.bool false)], objs := [] } := by
  refine (iwithin.run _ _ (by kernel_rfl)).trans ?_
  delta iwithin XX
  generalize lpL (Y.ctx (lim' Y)) 34 = lp
  generalize lim' Y = call
  kernel_rfl


noncomputable def inamesOk.L2 (y0 : List (List D)) (y1 : Int) (y2 : List (List D)) (y3 : Int) (y4 : Int) : Option (Ex × St) := lpL XX 35 (bodyAt 2 inamesOk.c)
  (mkG 0 21 [(0, AV.one (A1.s y0)), (1, AV.one (A1.v (Value.int IntKind.i64 y1))), (7, AV.one (A1.s y2)), (8, AV.one (A1.v (Value.int IntKind.i64 y3))), (9, AV.one (A1.v (Value.int IntKind.i64 y4)))]
    [] GL)
noncomputable def inamesOk.A2 : Ex × St → Option Res := fun r => evA XX 35 (lpL XX 35) 2 inamesOk.c r.fst r.snd (outE XX 35 Tryd.f35)
noncomputable def inamesOk.q2 (y0 : List (List D)) (y1 : Int) (y2 : Bool) : Ex × St := (Ex.ret, mkG 0 21 [(0, AV.one (A1.s y0)), (1, AV.one (A1.v (Value.int IntKind.i64 y1))), (4, AV.one (A1.v (Value.bool y2)))] [] GL)
noncomputable def inamesOk.x2 (y0 : List (List D)) (y1 : Int) : Ex × St := (Ex.exit 0, mkG 0 21 [(0, AV.one (A1.s y0)), (1, AV.one (A1.v (Value.int IntKind.i64 y1)))] [] GL)
theorem inamesOk.e (a0 : List (List D)) (a1 : Int) :
    inamesOk [AV.one (A1.s a0), AV.one (A1.v (Value.int IntKind.i64 a1))] [] =
    (inamesOk.L2 a0 a1 a0 (↑a0.length : Int) 0).bind inamesOk.A2 := by
  refine (inamesOk.run _ _ (by kernel_rfl)).trans ?_
  delta inamesOk inamesOk.L2 inamesOk.A2 XX
  generalize lpL (Y.ctx (lim' Y)) 35 = lp
  generalize lim' Y = call
  kernel_rfl
theorem inamesOk.s2 (y0 : List (List D)) (y1 : Int) (y2 : List (List D)) (y3 : Int) (y4 : Int) :
    inamesOk.L2 y0 y1 y2 y3 y4 =
    bif decide (y4 < y3) then
  bif decide (0 ≤ y4) && decide (y4 < (↑y2.length : Int)) && decide ((y2.getD y4.toNat []).length = 1) then
    bif fitsRow [CK.str] (y2.getD y4.toNat []) 0 && decide (1 ≤ (y2.getD y4.toNat []).length) then
      (inameOk [AV.one (A1.v (Value.string ((y2.getD y4.toNat []).getD 0 D.h).str))] []).bind fun val =>
        bif fitsCells [R1.bool] val.1 && true then bif !(val.1.getD 0 TC.d).bool then some (inamesOk.q2 y0 y1 false) else inamesOk.L2 y0 y1 y2 y3 (IntKind.i64.wrap (y4 + 1)) else none
    else none
  else none
else some (inamesOk.x2 y0 y1) := by
  refine (lpL_eq (Y := Y) (c := lim' Y) (fn := 35) (rid := 2) (b := bodyAt 2 inamesOk.c) (by kernel_rfl) _).trans ?_
  delta inamesOk.L2 inameOk inamesOk.q2 inamesOk.x2 XX
  generalize lpL (Y.ctx (lim' Y)) 35 = lp
  generalize lim' Y = call
  kernel_rfl
theorem inamesOk.a2q2 (y0 : List (List D)) (y1 : Int) (y2 : Bool) :
    inamesOk.A2 (inamesOk.q2 y0 y1 y2) =
    some { cells := [TC.v (Value.bool y2)], objs := [] } := by
  delta inamesOk.A2 inamesOk.q2 XX
  generalize lpL (Y.ctx (lim' Y)) 35 = lp
  generalize lim' Y = call
  kernel_rfl
theorem inamesOk.a2x2 (y0 : List (List D)) (y1 : Int) :
    inamesOk.A2 (inamesOk.x2 y0 y1) =
    (iwithin [AV.one (A1.v (Value.int IntKind.i64 (↑y0.length : Int))), AV.one (A1.v (Value.int IntKind.i64 y1)), AV.one (A1.v (Value.int IntKind.i64 4))] []).bind fun val =>
  bif fitsCells [R1.bool] val.1 && true then some { cells := [TC.v (Value.bool (val.1.getD 0 TC.d).bool)], objs := [] } else none := by
  delta inamesOk.A2 inamesOk.x2 iwithin XX
  generalize lpL (Y.ctx (lim' Y)) 35 = lp
  generalize lim' Y = call
  kernel_rfl


theorem imodeOk.e (a0 : Int) :
    imodeOk [AV.one (A1.v (Value.int IntKind.i64 a0))] [] =
    (iwithin [AV.one (A1.v (Value.int IntKind.i64 a0)), AV.one (A1.v (Value.int IntKind.i64 0)), AV.one (A1.v (Value.int IntKind.i64 7))] []).bind fun val =>
  bif fitsCells [R1.bool] val.1 && true then some { cells := [TC.v (Value.bool (val.1.getD 0 TC.d).bool)], objs := [] } else none := by
  refine (imodeOk.run _ _ (by kernel_rfl)).trans ?_
  delta imodeOk iwithin XX
  generalize lpL (Y.ctx (lim' Y)) 36 = lp
  generalize lim' Y = call
  kernel_rfl


noncomputable def ihexOf.L3 (y0 : ByteArray) (y1 : Int) (y2 : List (List D)) : Option (Ex × St) := lpL XX 39 (bodyAt 3 ihexOf.c)
  (mkG 0 27 [(0, AV.one (A1.v (Value.string y0))), (3, AV.one (A1.r 3 [] 0)), (4, AV.one (A1.v (Value.int IntKind.i64 y1)))] [(3, some { kind := Kind.virt, row := [D.s y2], fl := [Own.deep] })] GL)
noncomputable def ihexOf.A3 : Ex × St → Option Res := fun r => evA XX 39 (lpL XX 39) 3 ihexOf.c r.fst r.snd (outE XX 39 Tryd.f39)
noncomputable def ihexOf.x3 (y0 : List (List D)) : Ex × St := (Ex.exit 0, mkG 0 27 [(3, AV.one (A1.r 3 [] 0))] [(3, some { kind := Kind.virt, row := [D.s y0], fl := [Own.deep] })] GL)
theorem ihexOf.e (a0 : ByteArray) :
    ihexOf [AV.one (A1.v (Value.string a0))] [] =
    (ihexOf.L3 a0 0 []).bind ihexOf.A3 := by
  refine (ihexOf.run _ _ (by kernel_rfl)).trans ?_
  delta ihexOf ihexOf.L3 ihexOf.A3 XX
  generalize lpL (Y.ctx (lim' Y)) 39 = lp
  generalize lim' Y = call
  kernel_rfl
theorem ihexOf.s3 (y0 : ByteArray) (y1 : Int) (y2 : List (List D)) :
    ihexOf.L3 y0 y1 y2 =
    bif decide (y1 < (↑y0.size : Int)) then
  bif decide (0 ≤ y1) && decide (y1 < (↑y0.size : Int)) then
    bif decide (IntKind.u8.wrap ((byteAt y0 y1.toNat).tdiv 16) < (↑(ByteArray.mk #[48, 49, 50, 51, 52, 53, 54, 55, 56, 57, 97, 98, 99, 100, 101, 102]).size : Int)) then
      bif decide (0 ≤ y1) && decide (y1 < (↑y0.size : Int)) then
        bif decide ((byteAt y0 y1.toNat).tmod 16 < (↑(ByteArray.mk #[48, 49, 50, 51, 52, 53, 54, 55, 56, 57, 97, 98, 99, 100, 101, 102]).size : Int)) then
          bif rowsLen 1 y2 && true && true && true && decide ((y2.length + 2) * 2 ≤ 70368744177664) then
            ihexOf.L3 y0 (IntKind.i64.wrap (y1 + 1))
              (y2 ++
                [[D.v
                      (Value.int IntKind.u8
                        (byteAt
                          (ByteArray.mk #[48, 49, 50, 51, 52, 53, 54, 55, 56, 57, 97, 98, 99, 100, 101, 102])
                          (IntKind.u8.wrap ((byteAt y0 y1.toNat).tdiv 16)).toNat))],
                  [D.v
                      (Value.int IntKind.u8
                        (byteAt
                          (ByteArray.mk #[48, 49, 50, 51, 52, 53, 54, 55, 56, 57, 97, 98, 99, 100, 101, 102])
                          ((byteAt y0 y1.toNat).tmod 16).toNat))]])
          else none
        else none
      else none
    else none
  else none
else some (ihexOf.x3 y2) := by
  refine (lpL_eq (Y := Y) (c := lim' Y) (fn := 39) (rid := 3) (b := bodyAt 3 ihexOf.c) (by kernel_rfl) _).trans ?_
  delta ihexOf.L3 ihexOf.x3 XX
  generalize lpL (Y.ctx (lim' Y)) 39 = lp
  generalize lim' Y = call
  kernel_rfl
theorem ihexOf.a3x3 (y0 : List (List D)) :
    ihexOf.A3 (ihexOf.x3 y0) =
    bif bytesB y0 then some { cells := [TC.v (Value.string (strOf y0))], objs := [] } else none := by
  delta ihexOf.A3 ihexOf.x3 XX
  generalize lpL (Y.ctx (lim' Y)) 39 = lp
  generalize lim' Y = call
  kernel_rfl


noncomputable def sl1NameOk.L2 (y0 : ByteArray) (y1 : Int) : Option (Ex × St) := lpL XX 45 (bodyAt 2 sl1NameOk.c) (mkG 0 36 [(0, AV.one (A1.v (Value.string y0))), (3, AV.one (A1.v (Value.int IntKind.i64 y1)))] [] GL)
noncomputable def sl1NameOk.A2 : Ex × St → Option Res := fun r => evA XX 45 (lpL XX 45) 2 sl1NameOk.c r.fst r.snd (outE XX 45 Tryd.f45)
noncomputable def sl1NameOk.q2 (y0 : ByteArray) (y1 : Bool) : Ex × St := (Ex.ret, mkG 0 36 [(0, AV.one (A1.v (Value.string y0))), (2, AV.one (A1.v (Value.bool y1)))] [] GL)
noncomputable def sl1NameOk.x2 (y0 : ByteArray) : Ex × St := (Ex.exit 0, mkG 0 36 [(0, AV.one (A1.v (Value.string y0)))] [] GL)
theorem sl1NameOk.e (a0 : ByteArray) :
    sl1NameOk [AV.one (A1.v (Value.string a0))] [] =
    (sl1NameOk.L2 a0 0).bind sl1NameOk.A2 := by
  refine (sl1NameOk.run _ _ (by kernel_rfl)).trans ?_
  delta sl1NameOk sl1NameOk.L2 sl1NameOk.A2 XX
  generalize lpL (Y.ctx (lim' Y)) 45 = lp
  generalize lim' Y = call
  kernel_rfl
theorem sl1NameOk.s2 (y0 : ByteArray) (y1 : Int) :
    sl1NameOk.L2 y0 y1 =
    bif decide (y1 < (↑y0.size : Int)) then
  bif decide (0 ≤ y1) && decide (y1 < (↑y0.size : Int)) then
    bif decide (byteAt y0 y1.toNat ≥ 97) then
      bif decide (0 ≤ y1) && decide (y1 < (↑y0.size : Int)) then
        bif decide (byteAt y0 y1.toNat ≤ 122) then sl1NameOk.L2 y0 (IntKind.i64.wrap (y1 + 1))
        else
          bif decide (0 ≤ y1) && decide (y1 < (↑y0.size : Int)) then
            bif decide (byteAt y0 y1.toNat ≥ 48) then
              bif decide (0 ≤ y1) && decide (y1 < (↑y0.size : Int)) then bif !decide (byteAt y0 y1.toNat ≤ 57) then some (sl1NameOk.q2 y0 false) else sl1NameOk.L2 y0 (IntKind.i64.wrap (y1 + 1))
              else none
            else some (sl1NameOk.q2 y0 false)
          else none
      else none
    else
      bif decide (0 ≤ y1) && decide (y1 < (↑y0.size : Int)) then
        bif decide (byteAt y0 y1.toNat ≥ 48) then
          bif decide (0 ≤ y1) && decide (y1 < (↑y0.size : Int)) then bif !decide (byteAt y0 y1.toNat ≤ 57) then some (sl1NameOk.q2 y0 false) else sl1NameOk.L2 y0 (IntKind.i64.wrap (y1 + 1)) else none
        else some (sl1NameOk.q2 y0 false)
      else none
  else none
else some (sl1NameOk.x2 y0) := by
  refine (lpL_eq (Y := Y) (c := lim' Y) (fn := 45) (rid := 2) (b := bodyAt 2 sl1NameOk.c) (by kernel_rfl) _).trans ?_
  delta sl1NameOk.L2 sl1NameOk.q2 sl1NameOk.x2 XX
  generalize lpL (Y.ctx (lim' Y)) 45 = lp
  generalize lim' Y = call
  kernel_rfl
theorem sl1NameOk.a2q2 (y0 : ByteArray) (y1 : Bool) :
    sl1NameOk.A2 (sl1NameOk.q2 y0 y1) =
    some { cells := [TC.v (Value.bool y1)], objs := [] } := by
  delta sl1NameOk.A2 sl1NameOk.q2 XX
  generalize lpL (Y.ctx (lim' Y)) 45 = lp
  generalize lim' Y = call
  kernel_rfl
theorem sl1NameOk.a2x2 (y0 : ByteArray) :
    sl1NameOk.A2 (sl1NameOk.x2 y0) =
    (sl1In [AV.one (A1.v (Value.int IntKind.i64 (↑y0.size : Int))), AV.one (A1.v (Value.int IntKind.i64 1)), AV.one (A1.v (Value.int IntKind.i64 5))] []).bind fun val =>
  bif fitsCells [R1.bool] val.1 && true then some { cells := [TC.v (Value.bool (val.1.getD 0 TC.d).bool)], objs := [] } else none := by
  delta sl1NameOk.A2 sl1NameOk.x2 sl1In XX
  generalize lpL (Y.ctx (lim' Y)) 45 = lp
  generalize lim' Y = call
  kernel_rfl


noncomputable def inameOk.L2 (y0 : ByteArray) (y1 : Int) (y2 : Int) : Option (Ex × St) := lpL XX 46 (bodyAt 2 inameOk.c) (mkG 0 35 [(0, AV.one (A1.v (Value.string y0))), (5, AV.one (A1.v (Value.int IntKind.i64 y1))), (6, AV.one (A1.v (Value.int IntKind.i64 y2)))] [] GL)
noncomputable def inameOk.A2 : Ex × St → Option Res := fun r => evA XX 46 (lpL XX 46) 2 inameOk.c r.fst r.snd (outE XX 46 Tryd.f46)
noncomputable def inameOk.q2 (y0 : ByteArray) (y1 : Bool) : Ex × St := (Ex.ret, mkG 0 35 [(0, AV.one (A1.v (Value.string y0))), (2, AV.one (A1.v (Value.bool y1)))] [] GL)
noncomputable def inameOk.x2 (y0 : ByteArray) : Ex × St := (Ex.exit 0, mkG 0 35 [(0, AV.one (A1.v (Value.string y0)))] [] GL)
theorem inameOk.e (a0 : ByteArray) :
    inameOk [AV.one (A1.v (Value.string a0))] [] =
    (inameOk.L2 a0 (↑a0.size : Int) 0).bind inameOk.A2 := by
  refine (inameOk.run _ _ (by kernel_rfl)).trans ?_
  delta inameOk inameOk.L2 inameOk.A2 XX
  generalize lpL (Y.ctx (lim' Y)) 46 = lp
  generalize lim' Y = call
  kernel_rfl
theorem inameOk.s2 (y0 : ByteArray) (y1 : Int) (y2 : Int) :
    inameOk.L2 y0 y1 y2 =
    bif decide (y2 < y1) then
  bif decide (0 ≤ y2) && decide (y2 < (↑y0.size : Int)) then
    bif decide (byteAt y0 y2.toNat < 97) then
      bif decide (0 ≤ y2) && decide (y2 < (↑y0.size : Int)) then
        bif decide (byteAt y0 y2.toNat < 48) then some (inameOk.q2 y0 false)
        else bif decide (0 ≤ y2) && decide (y2 < (↑y0.size : Int)) then bif decide (byteAt y0 y2.toNat > 57) then some (inameOk.q2 y0 false) else inameOk.L2 y0 y1 (IntKind.i64.wrap (y2 + 1)) else none
      else none
    else
      bif decide (0 ≤ y2) && decide (y2 < (↑y0.size : Int)) then
        bif decide (byteAt y0 y2.toNat > 122) then
          bif decide (0 ≤ y2) && decide (y2 < (↑y0.size : Int)) then
            bif decide (byteAt y0 y2.toNat < 48) then some (inameOk.q2 y0 false)
            else
              bif decide (0 ≤ y2) && decide (y2 < (↑y0.size : Int)) then bif decide (byteAt y0 y2.toNat > 57) then some (inameOk.q2 y0 false) else inameOk.L2 y0 y1 (IntKind.i64.wrap (y2 + 1))
              else none
          else none
        else inameOk.L2 y0 y1 (IntKind.i64.wrap (y2 + 1))
      else none
  else none
else some (inameOk.x2 y0) := by
  refine (lpL_eq (Y := Y) (c := lim' Y) (fn := 46) (rid := 2) (b := bodyAt 2 inameOk.c) (by kernel_rfl) _).trans ?_
  delta inameOk.L2 inameOk.q2 inameOk.x2 XX
  generalize lpL (Y.ctx (lim' Y)) 46 = lp
  generalize lim' Y = call
  kernel_rfl
theorem inameOk.a2q2 (y0 : ByteArray) (y1 : Bool) :
    inameOk.A2 (inameOk.q2 y0 y1) =
    some { cells := [TC.v (Value.bool y1)], objs := [] } := by
  delta inameOk.A2 inameOk.q2 XX
  generalize lpL (Y.ctx (lim' Y)) 46 = lp
  generalize lim' Y = call
  kernel_rfl
theorem inameOk.a2x2 (y0 : ByteArray) :
    inameOk.A2 (inameOk.x2 y0) =
    (iwithin [AV.one (A1.v (Value.int IntKind.i64 (↑y0.size : Int))), AV.one (A1.v (Value.int IntKind.i64 1)), AV.one (A1.v (Value.int IntKind.i64 5))] []).bind fun val =>
  bif fitsCells [R1.bool] val.1 && true then some { cells := [TC.v (Value.bool (val.1.getD 0 TC.d).bool)], objs := [] } else none := by
  delta inameOk.A2 inameOk.x2 iwithin XX
  generalize lpL (Y.ctx (lim' Y)) 46 = lp
  generalize lim' Y = call
  kernel_rfl


end Go.PVx
